import Derived.Test.YtckjlckhjcbddaaGreatLibFew
import Derived.Test.YtckjlckhjcbddaaGreatPG3x10
import Derived.Test.YtckjlckhjcbddaaGreatPG3x15
import Derived.Test.YtckjlckhjcbddaaGreatPG3x16
import Derived.Test.YtckjlckhjcbddaaGreatPG3x19
import Derived.Test.YtckjlckhjcbddaaGreatPG3x20
import Derived.Test.YtckjlckhjcbddaaGreatPG3x22
import Derived.Test.YtckjlckhjcbddaaGreatPG3x23
import Derived.Test.YtckjlckhjcbddaaGreatPG3x7
import Derived.Test.YtckjlckhjcbddaaGreatPG3x9
set_option linter.unusedVariables false
set_option linter.unusedSectionVars false
set_option linter.unusedSimpArgs false
namespace Go.Proofs.YtckjlckhjcbddaaGreat.PG3
open Go.RowKit Go.Proofs.YtckjlckhjcbddaaGreatW.PrintWords Go.Proofs.YtckjlckhjcbddaaGreatW.PrintLast Go.Proofs.YtckjlckhjcbddaaGreatW.PrintMore
theorem refIn_is (x:S47):fleuronref16_In.f x.f0 x.f1=some (isPt x):=by
 unfold fleuronref16_In.f isPt
 by_cases h1:x.f0≥-268435455
 ·rw [if_pos h1,decide_eq_true (show -268435455≤x.f0 from h1)]
  by_cases h2:x.f0≤268435455
  ·rw [if_pos h2,decide_eq_true h2]
   by_cases h3:x.f1≥-268435455
   ·rw [if_pos h3,decide_eq_true (show -268435455≤x.f1 from h3)];simp
   ·rw [if_neg h3,decide_eq_false (show ¬ -268435455≤x.f1 from h3)];simp
  ·rw [if_neg h2,decide_eq_false h2];simp
 ·rw [if_neg h1,decide_eq_false (show ¬ -268435455≤x.f0 from h1)];simp
theorem refAll_from (l:List S47) (hl:l.length≤9223372036854775806) (d:Nat) : ∀ (k i:Nat),i≤l.length→l.length-i=d→d<k→fleuronref16_All.l0 k l (l.length:Int) (i:Int)=some ((l.drop i).all isPt):=by
 induction d with
 | zero =>
  intro k i hi hd hk
  obtain ⟨k,rfl⟩ : ∃ m,k=m+1:=⟨k-1,by omega⟩
  simp only [fleuronref16_All.l0]
  rw [if_neg (by omega),List.drop_eq_nil_of_le (by omega)]
  rfl
 | succ d ih =>
  intro k i hi hd hk
  obtain ⟨k,rfl⟩ : ∃ m,k=m+1:=⟨k-1,by omega⟩
  simp only [fleuronref16_All.l0]
  rw [if_pos (by omega),if_pos (by omega),if_pos (by omega),refIn_is]
  simp only [Option.bind_some]
  rw [rd_drop l i (by omega),List.all_cons]
  cases hx:isPt (rd_T47 l (i:Int)) with
  | false=>simp
  | true =>
   rw [if_pos rfl,wrap64_small (by omega) (by omega),show (i:Int)+1=((i+1:Nat):Int) by omega,ih k (i+1) (by omega) (by omega) (by omega)]
   simp
theorem refAll_is (l:List S47) (hl:l.length≤9223372036854775806) (k:Nat) (hk:l.length<k):fleuronref16_All.f k l=some (l.all isPt):=by
 unfold fleuronref16_All.f
 have:=refAll_from l hl l.length k 0 (by omega) (by omega) hk
 simpa using this
theorem refValid_is (l:List S47) (hl:l.length≤9223372036854775806) (k:Nat) (hk:l.length<k):fleuronref17_Valid.f k l=some (okPoly l):=by
 unfold fleuronref17_Valid.f okPoly
 rw [refAll_is l hl k hk]
 by_cases h1:(l.length:Int)≥1
 ·rw [if_pos h1,decide_eq_true (show 1≤l.length by omega)]
  by_cases h2:(l.length:Int)≤60000
  ·rw [if_pos h2,decide_eq_true (show l.length≤60000 by omega)];simp
  ·rw [if_neg h2,decide_eq_false (show ¬ l.length≤60000 by omega)];simp
 ·rw [if_neg h1,decide_eq_false (show ¬ 1≤l.length by omega)];simp
theorem refSign_is (n:Int):fleuronref17_sign.f n=some (sgnB n):=by
 unfold fleuronref17_sign.f sgnB
 by_cases h:n>0
 ·rw [if_pos h,if_neg (by omega),if_pos (by omega)]
 ·rw [if_neg h]
  by_cases h':n<0
  ·rw [if_pos h',if_pos h']
  ·rw [if_neg h',if_neg h',if_neg (by omega)]
theorem cross_bound (a b p:S47) (ha:isPt a=true) (hb:isPt b=true) (hp:isPt p=true) : -576460749082198016≤crossB a b p∧crossB a b p≤576460749082198016:=by
 have ba:=isPt_bounds ha;have bb:=isPt_bounds hb;have bp:=isPt_bounds hp
 have m1:=mul_bound (x:=b.f0-a.f0) (y:=p.f1-a.f1) (by omega) (by omega) (by omega) (by omega)
 have m2:=mul_bound (x:=b.f1-a.f1) (y:=p.f0-a.f0) (by omega) (by omega) (by omega) (by omega)
 unfold crossB
 omega
theorem sgnB_neg (n:Int):sgnB (-n) = - sgnB n:=by
 unfold sgnB
 by_cases h:n<0
 ·rw [if_neg (by omega),if_pos (by omega),if_pos h];rfl
 ·by_cases h':0<n
  ·rw [if_pos (by omega),if_neg h,if_pos h']
  ·rw [if_neg (by omega),if_neg (by omega),if_neg h,if_neg h'];rfl
theorem arePoints_is (l:List S47) (hl:l.length≤9223372036854775807):flat_ArePoints.f l=some (l.all isPt):=by unfold flat_ArePoints.f;rw [if_pos hl]
theorem next_is (l:List S47) (i:Nat) (hi:i<l.length) (hl:l.length≤1000000000):fleuronref17_next.f l (i:Int)=some ((nxt l i).f0,(nxt l i).f1):=by
 have hm:=Nat.mod_lt (i+1) (show 0<l.length by omega)
 unfold fleuronref17_next.f nxt
 rw [if_neg (by omega),wrap64_small (by omega) (by omega),Int.tmod_eq_emod_of_nonneg (by omega),show ((i:Int)+1) % (l.length:Int)=(((i+1) % l.length:Nat):Int) by simp,if_pos (by omega),if_pos (by omega)]
theorem cross_up (a b p:S47):a.f0*(b.f1-a.f1)+(p.f1-a.f1)*(b.f0-a.f0)-p.f0*(b.f1-a.f1)=crossB a b p:=by
 unfold crossB
 have e:(b.f1-a.f1)*(p.f0-a.f0)=p.f0*(b.f1-a.f1)-a.f0*(b.f1-a.f1):=by rw [Int.mul_sub,Int.mul_comm _ p.f0,Int.mul_comm _ a.f0]
 rw [e,Int.mul_comm (p.f1-a.f1)]
 omega
theorem cross_down (a b p:S47):a.f0*(a.f1-b.f1)+(a.f1-p.f1)*(b.f0-a.f0)-p.f0*(a.f1-b.f1) = - crossB a b p:=by
 rw [← cross_up a b p,show a.f1-b.f1 = -(b.f1-a.f1) by omega,show a.f1-p.f1 = -(p.f1-a.f1) by omega,Int.mul_neg,Int.neg_mul,Int.mul_neg]
 omega
theorem crossing_is (k:Nat) (a b p:S47) (ha:isPt a=true) (hb:isPt b=true) (hp:isPt p=true) :
  ∃ num den,fleuronref17_crossing.f (k+1) a.f0 a.f1 b.f0 b.f1 p.f0 p.f1=some (wayB a b p.f1,num,den) ∧
   (wayB a b p.f1≠0→wrap64 (num-wrap64 (p.f0*den))=crossB a b p*wayB a b p.f1 ∧
    (wayB a b p.f1=1∧den=b.f1-a.f1∧num=a.f0*den+(p.f1-a.f1)*(b.f0-a.f0)∨wayB a b p.f1 = -1∧den=a.f1-b.f1∧num=a.f0*den+(a.f1-p.f1)*(b.f0-a.f0))):=by
 have ba:=isPt_bounds ha;have bb:=isPt_bounds hb;have bp:=isPt_bounds hp
 have cb:=cross_bound a b p ha hb hp
 have m1:=mul_bound (x:=a.f0) (y:=b.f1-a.f1) (by omega) (by omega) (by omega) (by omega)
 have m2:=mul_bound (x:=p.f1-a.f1) (y:=b.f0-a.f0) (by omega) (by omega) (by omega) (by omega)
 have m3:=mul_bound (x:=p.f0) (y:=b.f1-a.f1) (by omega) (by omega) (by omega) (by omega)
 have n1:=mul_bound (x:=a.f0) (y:=a.f1-b.f1) (by omega) (by omega) (by omega) (by omega)
 have n2:=mul_bound (x:=a.f1-p.f1) (y:=b.f0-a.f0) (by omega) (by omega) (by omega) (by omega)
 have n3:=mul_bound (x:=p.f0) (y:=a.f1-b.f1) (by omega) (by omega) (by omega) (by omega)
 have eu:=cross_up a b p
 have ed:=cross_down a b p
 unfold fleuronref17_crossing.f
 simp only [fleuronref17_crossing.j0,decide_eq_true_eq,Bool.false_eq_true,if_false]
 by_cases hup:a.f1≤p.f1∧p.f1<b.f1
 ·have hw:wayB a b p.f1=1:=by unfold wayB;rw [if_pos hup]
  rw [hw,if_pos hup.1,if_pos hup.2,wrap64_small (n:=b.f1-a.f1) (by omega) (by omega),wrap64_small (n:=p.f1-a.f1) (by omega) (by omega),wrap64_small (n:=b.f0-a.f0) (by omega) (by omega),wrap64_small (n:=a.f0*(b.f1-a.f1)) (by omega) (by omega),
   wrap64_small (n:=(p.f1-a.f1)*(b.f0-a.f0)) (by omega) (by omega),wrap64_small (n:=a.f0*(b.f1-a.f1)+(p.f1-a.f1)*(b.f0-a.f0)) (by omega) (by omega)]
  refine ⟨_,_,rfl,fun _=>⟨?_,Or.inl ⟨rfl,rfl,rfl⟩⟩⟩
  rw [wrap64_small (n:=p.f0*(b.f1-a.f1)) (by omega) (by omega),eu,Int.mul_one,wrap64_small (by omega) (by omega)]
 ·by_cases hdn:b.f1≤p.f1∧p.f1<a.f1
  ·have hw:wayB a b p.f1 = -1:=by unfold wayB;rw [if_neg hup,if_pos hdn]
   rw [hw,if_neg (show ¬ a.f1≤p.f1 by omega),if_pos hdn.1,if_pos hdn.2,wrap64_small (n:=a.f1-b.f1) (by omega) (by omega),wrap64_small (n:=a.f1-p.f1) (by omega) (by omega),wrap64_small (n:=b.f0-a.f0) (by omega) (by omega),wrap64_small (n:=a.f0*(a.f1-b.f1)) (by omega) (by omega),
    wrap64_small (n:=(a.f1-p.f1)*(b.f0-a.f0)) (by omega) (by omega),wrap64_small (n:=a.f0*(a.f1-b.f1)+(a.f1-p.f1)*(b.f0-a.f0)) (by omega) (by omega)]
   refine ⟨_,_,rfl,fun _=>⟨?_,Or.inr ⟨rfl,rfl,rfl⟩⟩⟩
   rw [wrap64_small (n:=p.f0*(a.f1-b.f1)) (by omega) (by omega),ed,show crossB a b p * -1 = - crossB a b p by omega,wrap64_small (by omega) (by omega)]
  ·have hw:wayB a b p.f1=0:=by unfold wayB;rw [if_neg hup,if_neg hdn]
   rw [hw]
   refine ⟨0,0,?_,fun h=>absurd rfl h⟩
   repeat' split
   all_goals first|rfl|(exfalso;omega)
theorem sgn_way (n w:Int) (hw:w=1∨w = -1):sgnB (n*w)=sgnB n*w:=by
 rcases hw with rfl|rfl
 ·rw [Int.mul_one,Int.mul_one]
 ·rw [show n * -1 = -n by omega,sgnB_neg,show sgnB n * -1 = - sgnB n by omega]
theorem wrap_step {x y:Int} (h : -1000000000≤x) (h':x≤1000000000) (hy:y=1∨y = -1):wrap64 (x+y)=x+y:=wrap64_small (by omega) (by omega)
theorem counted_from (l:List S47) (p:S47) (wh:Int) (hl:l.length≤1000000000) (hal : ∀ x∈l,isPt x=true) (hp:isPt p=true) (d:Nat) :
  ∀ (k i:Nat),i≤l.length→l.length-i=d→d+1<k→fleuronref17_counted.l0 k l wh (csum l p wh id i) (csum l p wh (fun _=>1) i) l (l.length:Int) (i:Int) p.f0 p.f1=some (csum l p wh id l.length,csum l p wh (fun _=>1) l.length):=by
 induction d with
 | zero =>
  intro k i hi hd hk
  obtain ⟨k,rfl⟩ : ∃ m,k=m+1:=⟨k-1,by omega⟩
  obtain rfl:i=l.length:=by omega
  simp only [fleuronref17_counted.l0]
  rw [if_neg (by omega)]
 | succ d ih =>
  intro k i hi hd hk
  obtain ⟨k,rfl⟩ : ∃ m,k=m+2:=⟨k-2,by omega⟩
  have hlt:i<l.length:=by omega
  have hx:=hal _ (rd_mem l i hlt)
  have hy:=hal _ (nxt_mem l i hlt)
  obtain ⟨num,den,hc,hn⟩:=crossing_is k (rd_T47 l (i:Int)) (nxt l i) p hx hy hp
  have a1:=csum_abs l p wh id (by simp <;> omega) i
  have a2:=csum_abs l p wh (fun _=>1) (by simp <;> omega) i
  have b1 : -1000000000≤csum l p wh id i∧csum l p wh id i≤1000000000:=by omega
  have b2 : -1000000000≤csum l p wh (fun _=>1) i∧csum l p wh (fun _=>1) i≤1000000000:=by omega
  clear a1 a2
  have st:=ih (k+1) (i+1) (by omega) (by omega) (by omega)
  simp only [fleuronref17_counted.l0]
  rw [if_pos (by omega),if_pos (by omega),if_pos (by omega),next_is l i hlt hl]
  simp only [Option.bind_some]
  rw [hc]
  simp only [Option.bind_some]
  have e1:csum l p wh id (i+1)=csum l p wh id i+ctermB (rd_T47 l (i:Int)) (nxt l i) p wh id:=rfl
  have e2:csum l p wh (fun _=>1) (i+1)=csum l p wh (fun _=>1) i+ctermB (rd_T47 l (i:Int)) (nxt l i) p wh (fun _=>1):=rfl
  have ew:wrap64 ((i:Int)+1)=((i+1:Nat):Int):=by rw [wrap64_small (by omega) (by omega)];omega
  rw [ew]
  by_cases hw:wayB (rd_T47 l (i:Int)) (nxt l i) p.f1=0
  ·rw [if_pos hw]
   have t1:ctermB (rd_T47 l (i:Int)) (nxt l i) p wh id=0:=by unfold ctermB;rw [if_pos hw]
   have t2:ctermB (rd_T47 l (i:Int)) (nxt l i) p wh (fun _=>1)=0:=by unfold ctermB;rw [if_pos hw]
   rw [e1,e2,t1,t2,Int.add_zero,Int.add_zero] at st
   exact st
  ·have hw1:wayB (rd_T47 l (i:Int)) (nxt l i) p.f1=1∨wayB (rd_T47 l (i:Int)) (nxt l i) p.f1 = -1:=by
    rcases wayB_cases (rd_T47 l (i:Int)) (nxt l i) p.f1 with h|h|h
    ·exact absurd h hw
    ·exact Or.inl h
    ·exact Or.inr h
   rw [if_neg hw,(hn hw).1,refSign_is,sgn_way _ _ hw1]
   simp only [Option.bind_some]
   by_cases hs:sideB (rd_T47 l (i:Int)) (nxt l i) p=wh
   ·rw [if_pos (show sgnB (crossB _ _ p)*_=wh from hs)]
    have t1:ctermB (rd_T47 l (i:Int)) (nxt l i) p wh id=wayB (rd_T47 l (i:Int)) (nxt l i) p.f1:=by unfold ctermB;rw [if_neg hw,if_pos hs];rfl
    have t2:ctermB (rd_T47 l (i:Int)) (nxt l i) p wh (fun _=>1)=1:=by unfold ctermB;rw [if_neg hw,if_pos hs]
    rw [e1,e2,t1,t2] at st
    rw [wrap_step b1.1 b1.2 hw1,wrap_step b2.1 b2.2 (Or.inl rfl)]
    exact st
   ·rw [if_neg (show ¬ sgnB (crossB _ _ p)*_=wh from hs)]
    have t1:ctermB (rd_T47 l (i:Int)) (nxt l i) p wh id=0:=by unfold ctermB;rw [if_neg hw,if_neg hs]
    have t2:ctermB (rd_T47 l (i:Int)) (nxt l i) p wh (fun _=>1)=0:=by unfold ctermB;rw [if_neg hw,if_neg hs]
    rw [e1,e2,t1,t2,Int.add_zero,Int.add_zero] at st
    exact st
theorem counted_is (l:List S47) (p:S47) (wh:Int) (hl:l.length≤1000000000) (hal : ∀ x∈l,isPt x=true) (hp:isPt p=true) (k:Nat) (hk:l.length+1<k) :
  fleuronref17_counted.f k l p.f0 p.f1 wh=some (csum l p wh id l.length,csum l p wh (fun _=>1) l.length):=by
 unfold fleuronref17_counted.f
 have:=counted_from l p wh hl hal hp l.length k 0 (by omega) (by omega) hk
 simpa [csum] using this
theorem okPoly_facts {l:List S47} (h:okPoly l=true):1≤l.length∧l.length≤60000∧∀ x∈l,isPt x=true:=by
 unfold okPoly at h
 simp only [Bool.and_eq_true,decide_eq_true_eq,List.all_eq_true] at h
 exact ⟨h.1,h.2.1,h.2.2⟩
theorem id_small : ∀ x:Int,-1≤x→x≤1→-1≤id x∧id x≤1:=by simp <;> omega
theorem one_small : ∀ x:Int,-1≤x→x≤1→-1≤(fun _:Int=>(1:Int)) x∧(fun _:Int=>(1:Int)) x≤1:=by simp
theorem sumLen_mem {ll:List (List S47)} {l:List S47} (h:l∈ll):l.length≤sumLen ll:=by
 induction ll with
 | nil=>cases h
 | cons y ys ih =>
  simp only [sumLen]
  rcases List.mem_cons.1 h with rfl|h
  ·omega
  ·have:=ih h;omega
theorem sumLen_drop (ll:List (List S47)) : ∀ i,sumLen (ll.drop i)≤sumLen ll:=by
 induction ll with
 | nil=>intro i;simp [sumLen]
 | cons y ys ih =>
  intro i
  cases i with
  | zero=>simp
  | succ i=>simp only [List.drop_succ_cons,sumLen];have:=ih i;omega
def vallB (ll:List (List S47)):Bool:=ll.all okPoly && (decide (ll.length≤50) && decide (sumLen ll≤60000))
theorem validAll_from (ll:List (List S47)) (hll:ll.length≤1000000) (d:Nat) :
  ∀ (k i:Nat) (n:Int),i≤ll.length→ll.length-i=d→d<k→0≤n→n+sumLen (ll.drop i)≤1000000→wind_ValidAll.l0 k ll n ll (ll.length:Int) (i:Int)=some ((ll.drop i).all okPoly && (decide (ll.length≤50) && decide (n+(sumLen (ll.drop i):Int)≤60000))):=by
 induction d with
 | zero =>
  intro k i n hi hd hk hn hn'
  obtain ⟨k,rfl⟩ : ∃ m,k=m+1:=⟨k-1,by omega⟩
  simp only [wind_ValidAll.l0]
  rw [if_neg (by omega),List.drop_eq_nil_of_le (by omega)]
  by_cases h:(ll.length:Int)≤50
  ·rw [if_pos h,decide_eq_true (show ll.length≤50 by omega)];simp [sumLen]
  ·rw [if_neg h,decide_eq_false (show ¬ ll.length≤50 by omega)];simp
 | succ d ih =>
  intro k i n hi hd hk hn hn'
  obtain ⟨k,rfl⟩ : ∃ m,k=m+1:=⟨k-1,by omega⟩
  have hdr:=rdL_drop ll i (by omega)
  rw [hdr] at hn'
  simp only [sumLen] at hn'
  have st:=ih k (i+1) (n+((rd_L2 ll (i:Int)).length:Int)) (by omega) (by omega) (by omega) (by omega) (by omega)
  simp only [wind_ValidAll.l0]
  rw [if_pos (by omega),if_pos (by omega),if_pos (by omega),valid_is _ (by omega),hdr]
  simp only [Option.bind_some,sumLen,List.all_cons]
  cases hok:okPoly (rd_L2 ll (i:Int)) with
  | false=>simp
  | true =>
   rw [if_pos rfl,wrap64_small (n:=n+_) (by omega) (by omega),wrap64_small (n:=(i:Int)+1) (by omega) (by omega),show (i:Int)+1=((i+1:Nat):Int) by omega,Bool.true_and]
   rw [show n+((rd_L2 ll (i:Int)).length:Int)+(sumLen (ll.drop (i+1)):Int)=n+(((rd_L2 ll (i:Int)).length+sumLen (ll.drop (i+1)):Nat):Int) by omega] at st
   exact st
theorem some_from (ll:List (List S47)) (hll:ll.length≤1000000) (d:Nat) :
  ∀ (k i:Nat) (n:Int),i≤ll.length→ll.length-i=d→d+1000001<k→0≤n→n+sumLen (ll.drop i)≤1000000→fleuronref17_Some.l0 k ll n ll (ll.length:Int) (i:Int)=some ((ll.drop i).all okPoly && (decide (ll.length≤50) && decide (n+(sumLen (ll.drop i):Int)≤60000))):=by
 induction d with
 | zero =>
  intro k i n hi hd hk hn hn'
  obtain ⟨k,rfl⟩ : ∃ m,k=m+1:=⟨k-1,by omega⟩
  simp only [fleuronref17_Some.l0]
  rw [if_neg (by omega),List.drop_eq_nil_of_le (by omega)]
  by_cases h:(ll.length:Int)≤50
  ·rw [if_pos h,decide_eq_true (show ll.length≤50 by omega)];simp [sumLen]
  ·rw [if_neg h,decide_eq_false (show ¬ ll.length≤50 by omega)];simp
 | succ d ih =>
  intro k i n hi hd hk hn hn'
  obtain ⟨k,rfl⟩ : ∃ m,k=m+1:=⟨k-1,by omega⟩
  have hdr:=rdL_drop ll i (by omega)
  rw [hdr] at hn'
  simp only [sumLen] at hn'
  have st:=ih k (i+1) (n+((rd_L2 ll (i:Int)).length:Int)) (by omega) (by omega) (by omega) (by omega) (by omega)
  simp only [fleuronref17_Some.l0]
  rw [if_pos (by omega),if_pos (by omega),if_pos (by omega),refValid_is _ (by omega) k (by omega),hdr]
  simp only [Option.bind_some,sumLen,List.all_cons]
  cases hok:okPoly (rd_L2 ll (i:Int)) with
  | false=>simp
  | true =>
   rw [if_pos rfl,wrap64_small (n:=n+_) (by omega) (by omega),wrap64_small (n:=(i:Int)+1) (by omega) (by omega),show (i:Int)+1=((i+1:Nat):Int) by omega,Bool.true_and]
   rw [show n+((rd_L2 ll (i:Int)).length:Int)+(sumLen (ll.drop (i+1)):Int)=n+(((rd_L2 ll (i:Int)).length+sumLen (ll.drop (i+1)):Nat):Int) by omega] at st
   exact st
section
variable (ll:List (List S47)) (hs:sumLen ll+ll.length≤1000000) (k:Nat) (hk:3000000<k)
include hs hk
theorem validAll_is:wind_ValidAll.f k ll=some (vallB ll):=by
 unfold wind_ValidAll.f vallB
 have:=validAll_from ll (by omega) ll.length k 0 0 (by omega) (by omega) (by omega) (by omega) (by simp;omega)
 simp only [List.drop_zero,Int.zero_add,Int.natCast_zero] at this
 rw [this]
 congr 4
 exact propext ⟨fun h=>by omega,fun h=>by omega⟩
theorem some_is:fleuronref17_Some.f k ll=some (vallB ll):=by
 unfold fleuronref17_Some.f vallB
 have:=some_from ll (by omega) ll.length k 0 0 (by omega) (by omega) (by omega) (by omega) (by simp;omega)
 simp only [List.drop_zero,Int.zero_add,Int.natCast_zero] at this
 rw [this]
 congr 4
 exact propext ⟨fun h=>by omega,fun h=>by omega⟩
end
def allSum (p:S47) (ofv:Int→Int):List (List S47)→Int
 | []=>0
 | l::ls=>csum l p 1 ofv l.length+allSum p ofv ls
theorem allSum_abs (p:S47) (ofv:Int→Int) (hov : ∀ x,-1≤x→x≤1→-1≤ofv x∧ofv x≤1) : ∀ ll,-(sumLen ll:Int)≤allSum p ofv ll∧allSum p ofv ll≤sumLen ll
 | []=>by simp [allSum,sumLen]
 | l::ls=>by
  have h1:=allSum_abs p ofv hov ls
  have h2:=csum_abs l p 1 ofv hov l.length
  simp only [allSum,sumLen]
  omega
def insideB (ll:List (List S47)) (even:Bool) (p:S47):Bool:=if even then Int.tmod (allSum p (fun _=>1) ll) 2 == 1 else allSum p id ll != 0
theorem within_from (ll:List (List S47)) (even:Bool) (p:S47) (hok : ∀ l∈ll,okPoly l=true) (hp:isPt p=true) (hll:ll.length≤1000000) (d:Nat) :
  ∀ (k i:Nat) (s n:Int),i≤ll.length→ll.length-i=d→d+70000<k→-1000000+(sumLen (ll.drop i):Int)≤s→s+sumLen (ll.drop i)≤1000000→-1000000+(sumLen (ll.drop i):Int)≤n→n+sumLen (ll.drop i)≤1000000 →
   fleuronref17_Within.l0 k even s n ll (ll.length:Int) (i:Int) p.f0 p.f1=some (if even then Int.tmod (n+allSum p (fun _=>1) (ll.drop i)) 2 == 1 else s+allSum p id (ll.drop i) != 0):=by
 induction d with
 | zero =>
  intro k i s n hi hd hk h1 h2 h3 h4
  obtain ⟨k,rfl⟩ : ∃ m,k=m+1:=⟨k-1,by omega⟩
  simp only [fleuronref17_Within.l0]
  rw [if_neg (by omega),List.drop_eq_nil_of_le (by omega)]
  cases even with
  | true=>simp [allSum]
  | false =>
   simp only [allSum,Int.add_zero,Bool.false_eq_true,if_false]
   by_cases h:s=0
   ·rw [if_pos h,h];rfl
   ·rw [if_neg h];simp [h]
 | succ d ih =>
  intro k i s n hi hd hk h1 h2 h3 h4
  obtain ⟨k,rfl⟩ : ∃ m,k=m+1:=⟨k-1,by omega⟩
  have hdr:=rdL_drop ll i (by omega)
  have hm:=rdL_mem ll i (by omega)
  have ho:=hok _ hm
  have hof:=okPoly_facts ho
  rw [hdr] at h1 h2 h3 h4
  simp only [sumLen] at h1 h2 h3 h4
  have c1:=csum_abs (rd_L2 ll (i:Int)) p 1 id id_small (rd_L2 ll (i:Int)).length
  have c2:=csum_abs (rd_L2 ll (i:Int)) p 1 (fun _=>1) one_small (rd_L2 ll (i:Int)).length
  have st:=ih k (i+1) (s+csum (rd_L2 ll (i:Int)) p 1 id (rd_L2 ll (i:Int)).length) (n+csum (rd_L2 ll (i:Int)) p 1 (fun _=>1) (rd_L2 ll (i:Int)).length) (by omega) (by omega) (by omega) (by omega) (by omega) (by omega) (by omega)
  simp only [fleuronref17_Within.l0,fleuronref17_Wind.f]
  rw [if_pos (by omega),if_pos (by omega),if_pos (by omega),counted_is _ _ 1 (by omega) hof.2.2 hp k (by omega),hdr]
  simp only [Option.bind_some,allSum]
  rw [wrap64_small (n:=s+_) (by omega) (by omega),wrap64_small (n:=n+_) (by omega) (by omega),wrap64_small (n:=(i:Int)+1) (by omega) (by omega),show (i:Int)+1=((i+1:Nat):Int) by omega,st,Int.add_assoc,Int.add_assoc]
theorem vall_facts {ll:List (List S47)} (h:vallB ll=true):(∀ l∈ll,okPoly l=true)∧ll.length≤50∧sumLen ll≤60000:=by
 unfold vallB at h
 simp only [Bool.and_eq_true,decide_eq_true_eq,List.all_eq_true] at h
 exact ⟨h.1,h.2.1,h.2.2⟩
theorem within_is (ll:List (List S47)) (even:Bool) (p:S47) (hv:vallB ll=true) (hp:isPt p=true) (k:Nat) (hk:80000<k):fleuronref17_Within.f k ll even p.f0 p.f1=some (insideB ll even p):=by
 have vf:=vall_facts hv
 have:=within_from ll even p vf.1 hp (by omega) ll.length k 0 0 0 (by omega) (by omega) (by omega) (by simp;omega) (by simp;omega) (by simp;omega) (by simp;omega)
 simp only [List.drop_zero,Int.zero_add,Int.natCast_zero] at this
 exact this
end Go.Proofs.YtckjlckhjcbddaaGreat.PG3

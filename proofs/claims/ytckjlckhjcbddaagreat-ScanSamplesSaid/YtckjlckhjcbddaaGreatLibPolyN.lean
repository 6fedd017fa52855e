import Derived.Test.YtckjlckhjcbddaaGreatLibFew
import Derived.Test.YtckjlckhjcbddaaGreatPG3x10
import Derived.Test.YtckjlckhjcbddaaGreatPG3x15
import Derived.Test.YtckjlckhjcbddaaGreatPG3x7
import Derived.Test.YtckjlckhjcbddaaGreatPG3x9
set_option linter.unusedVariables false
set_option linter.unusedSectionVars false
set_option linter.unusedSimpArgs false
namespace Go.Proofs.YtckjlckhjcbddaaGreat.PG3
open Go.RowKit Go.Proofs.YtckjlckhjcbddaaGreatW.PrintWords Go.Proofs.YtckjlckhjcbddaaGreatW.PrintLast Go.Proofs.YtckjlckhjcbddaaGreatW.PrintMore
theorem cross_bound (a b p:S47) (ha:isPt a=true) (hb:isPt b=true) (hp:isPt p=true) : -576460749082198016≤crossB a b p∧crossB a b p≤576460749082198016:=by
  have ba:=isPt_bounds ha;have bb:=isPt_bounds hb;have bp:=isPt_bounds hp
  have m1:=mul_bound (x:=b.f0-a.f0) (y:=p.f1-a.f1) (by omega) (by omega) (by omega) (by omega)
  have m2:=mul_bound (x:=b.f1-a.f1) (y:=p.f0-a.f0) (by omega) (by omega) (by omega) (by omega)
  unfold crossB
  omega
theorem sgnB_neg (n:Int):sgnB (-n) = - sgnB n:=by
  unfold sgnB
  by_cases h:n<0
  · rw [if_neg (by omega),if_pos (by omega),if_pos h];rfl
  · by_cases h':0<n
    · rw [if_pos (by omega),if_neg h,if_pos h']
    · rw [if_neg (by omega),if_neg (by omega),if_neg h,if_neg h'];rfl
theorem arePoints_is (l:List S47) (hl:l.length≤9223372036854775807):flat_ArePoints.f l=some (l.all isPt):=by unfold flat_ArePoints.f;rw [if_pos hl]
theorem cross_up (a b p:S47):a.f0*(b.f1-a.f1)+(p.f1-a.f1)*(b.f0-a.f0)-p.f0*(b.f1-a.f1)=crossB a b p:=by
  unfold crossB
  have e:(b.f1-a.f1)*(p.f0-a.f0)=p.f0*(b.f1-a.f1)-a.f0*(b.f1-a.f1):=by rw [Int.mul_sub,Int.mul_comm _ p.f0,Int.mul_comm _ a.f0]
  rw [e,Int.mul_comm (p.f1-a.f1)]
  omega
theorem cross_down (a b p:S47):a.f0*(a.f1-b.f1)+(a.f1-p.f1)*(b.f0-a.f0)-p.f0*(a.f1-b.f1) = - crossB a b p:=by
  rw [← cross_up a b p,show a.f1-b.f1 = -(b.f1-a.f1) by omega,show a.f1-p.f1 = -(p.f1-a.f1) by omega,Int.mul_neg,Int.neg_mul,Int.mul_neg]
  omega
theorem sgn_way (n w:Int) (hw:w=1∨w = -1):sgnB (n*w)=sgnB n*w:=by
  rcases hw with rfl|rfl
  · rw [Int.mul_one,Int.mul_one]
  · rw [show n * -1 = -n by omega,sgnB_neg,show sgnB n * -1 = - sgnB n by omega]
theorem wrap_step {x y:Int} (h : -1000000000≤x) (h':x≤1000000000) (hy:y=1∨y = -1):wrap64 (x+y)=x+y:=wrap64_small (by omega) (by omega)
theorem okPoly_facts {l:List S47} (h:okPoly l=true):1≤l.length∧l.length≤60000∧∀ x∈l,isPt x=true:=by
  unfold okPoly at h
  simp only [Bool.and_eq_true,decide_eq_true_eq,List.all_eq_true] at h
  exact ⟨h.1,h.2.1,h.2.2⟩
theorem id_small : ∀ x:Int,-1≤x→x≤1→-1≤id x∧id x≤1:=by simp <;> omega
theorem one_small : ∀ x:Int,-1≤x→x≤1→-1≤(fun _:Int=>(1:Int)) x∧(fun _:Int=>(1:Int)) x≤1:=by simp
theorem sumLen_mem {ll:List (List S47)} {l:List S47} (h:l∈ll):l.length≤sumLen ll:=by
  induction ll with
  | nil=>cases h
  | cons y ys ih =>
    simp only [sumLen]
    rcases List.mem_cons.1 h with rfl|h
    · omega
    · have:=ih h;omega
theorem sumLen_drop (ll:List (List S47)) : ∀ i,sumLen (ll.drop i)≤sumLen ll:=by
  induction ll with
  | nil=>intro i;simp [sumLen]
  | cons y ys ih =>
    intro i
    cases i with
    | zero=>simp
    | succ i=>simp only [List.drop_succ_cons,sumLen];have:=ih i;omega
def vallB (ll:List (List S47)):Bool:=ll.all okPoly && (decide (ll.length≤50) && decide (sumLen ll≤60000))
theorem validAll_from (ll : List (List S47)) (hll : ll.length ≤ 1000000) (d : Nat) :
    ∀ (k i:Nat) (n:Int),i≤ll.length→ll.length-i=d→d<k→0≤n→n+sumLen (ll.drop i)≤1000000→wind_ValidAll.l0 k ll n ll (ll.length:Int) (i:Int)=some ((ll.drop i).all okPoly && (decide (ll.length≤50) && decide (n+(sumLen (ll.drop i):Int)≤60000))):=by
  induction d with
  | zero =>
    intro k i n hi hd hk hn hn'
    obtain ⟨k,rfl⟩ : ∃ m,k=m+1:=⟨k-1,by omega⟩
    simp only [wind_ValidAll.l0]
    rw [if_neg (by omega),List.drop_eq_nil_of_le (by omega)]
    by_cases h:(ll.length:Int)≤50
    · rw [if_pos h,decide_eq_true (show ll.length≤50 by omega)];simp [sumLen]
    · rw [if_neg h,decide_eq_false (show ¬ ll.length≤50 by omega)];simp
  | succ d ih =>
    intro k i n hi hd hk hn hn'
    obtain ⟨k,rfl⟩ : ∃ m,k=m+1:=⟨k-1,by omega⟩
    have hdr:=rdL_drop ll i (by omega)
    rw [hdr] at hn'
    simp only [sumLen] at hn'
    have st:=ih k (i+1) (n+((rd_L2 ll (i:Int)).length:Int)) (by omega) (by omega) (by omega) (by omega) (by omega)
    simp only [wind_ValidAll.l0]
    rw [if_pos (by omega),if_pos (by omega),if_pos (by omega),valid_is _ (by omega),hdr]
    simp only [Option.bind_some,sumLen,List.all_cons]
    cases hok:okPoly (rd_L2 ll (i:Int)) with
    | false=>simp
    | true =>
      rw [if_pos rfl,wrap64_small (n:=n+_) (by omega) (by omega),wrap64_small (n:=(i:Int)+1) (by omega) (by omega),show (i:Int)+1=((i+1:Nat):Int) by omega,Bool.true_and]
      rw [show n+((rd_L2 ll (i:Int)).length:Int)+(sumLen (ll.drop (i+1)):Int)=n+(((rd_L2 ll (i:Int)).length+sumLen (ll.drop (i+1)):Nat):Int) by omega] at st
      exact st
section
variable (ll:List (List S47)) (hs:sumLen ll+ll.length≤1000000) (k:Nat) (hk:3000000<k)
include hs hk
theorem validAll_is:wind_ValidAll.f k ll=some (vallB ll):=by
  unfold wind_ValidAll.f vallB
  have:=validAll_from ll (by omega) ll.length k 0 0 (by omega) (by omega) (by omega) (by omega) (by simp;omega)
  simp only [List.drop_zero,Int.zero_add,Int.natCast_zero] at this
  rw [this]
  congr 4
  exact propext ⟨fun h=>by omega,fun h=>by omega⟩
end
def allSum (p : S47) (ofv : Int → Int) : List (List S47) → Int
  | []=>0
  | l::ls=>csum l p 1 ofv l.length+allSum p ofv ls
theorem allSum_abs (p : S47) (ofv : Int → Int) (hov : ∀ x, -1 ≤ x → x ≤ 1 → -1 ≤ ofv x ∧ ofv x ≤ 1) : ∀ ll, -(sumLen ll : Int) ≤ allSum p ofv ll ∧ allSum p ofv ll ≤ sumLen ll
  | []=>by simp [allSum,sumLen]
  | l::ls=>by
    have h1:=allSum_abs p ofv hov ls
    have h2:=csum_abs l p 1 ofv hov l.length
    simp only [allSum,sumLen]
    omega
def insideB (ll:List (List S47)) (even:Bool) (p:S47):Bool:=if even then Int.tmod (allSum p (fun _=>1) ll) 2 == 1 else allSum p id ll != 0
theorem vall_facts {ll:List (List S47)} (h:vallB ll=true):(∀ l∈ll,okPoly l=true)∧ll.length≤50∧sumLen ll≤60000:=by
  unfold vallB at h
  simp only [Bool.and_eq_true,decide_eq_true_eq,List.all_eq_true] at h
  exact ⟨h.1,h.2.1,h.2.2⟩
end Go.Proofs.YtckjlckhjcbddaaGreat.PG3

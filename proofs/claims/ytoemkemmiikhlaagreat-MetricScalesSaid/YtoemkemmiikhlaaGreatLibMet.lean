import Derived.Test.YtoemkemmiikhlaaGreatPF1x0
import Derived.Test.YtoemkemmiikhlaaGreatPF1x10
import Derived.Test.YtoemkemmiikhlaaGreatPF1x15
import Derived.Test.YtoemkemmiikhlaaGreatPF1x20
import Derived.Test.YtoemkemmiikhlaaGreatPF1x21
import Derived.Test.YtoemkemmiikhlaaGreatPF1x3
import Derived.Test.YtoemkemmiikhlaaGreatPF1x5
set_option linter.unusedVariables false
set_option linter.unusedSectionVars false
set_option linter.unusedSimpArgs false
namespace Go.Proofs.YtoemkemmiikhlaaGreat.PF1
open Go.RowKit Go.Proofs.YtoemkemmiikhlaaGreatW.PrintWords Go.Proofs.YtoemkemmiikhlaaGreatW.PrintLast Go.Proofs.YtoemkemmiikhlaaGreatW.PrintMore
theorem wrap64_small {n:Int} (h : -9223372036854775808≤n) (h':n≤9223372036854775807):wrap64 n=n:=by unfold wrap64;omega
abbrev MC:=S50
abbrev MR:=S45
theorem few_is (sz:Int) (cs:List MC) (rs:List MR) (k:Nat) (hk:2≤k):fleuronlaw27_few.f k [⟨sz,cs,rs⟩]=some (decide (cs.length≤300) && decide (rs.length≤600)):=by
  obtain ⟨m,rfl⟩ : ∃ m,k=m+1+1:=⟨k-2,by omega⟩
  unfold fleuronlaw27_few.f
  rw [fleuronlaw27_few.l0,if_pos (by simp),if_pos (by decide),if_pos (by simp)]
  have hr:rd_T25 [(⟨sz,cs,rs⟩:S25)] 0=⟨sz,cs,rs⟩:=rfl
  rw [hr]
  by_cases h1:cs.length≤300
  · rw [if_neg (by simp only;omega),decide_eq_true h1,Bool.true_and]
    by_cases h2:rs.length≤600
    · rw [if_neg (by simp only;omega),decide_eq_true h2]
      have hw:wrap64 (0+1)=1:=wrap64_small (by omega) (by omega)
      rw [hw,fleuronlaw27_few.l0,if_neg (by simp)]
    · rw [if_pos (by simp only;omega),decide_eq_false h2]
  · rw [if_pos (by simp only;omega),decide_eq_false h1];rfl
theorem few2_is (sz:Int) (cs:List MC) (rs:List MR) (sz2:Int) (cs2:List MC) (rs2:List MR) (k:Nat) (hk:3≤k):fleuronlaw27_few.f k [⟨sz,cs,rs⟩,⟨sz2,cs2,rs2⟩]=some ((decide (cs.length≤300) && decide (rs.length≤600)) && (decide (cs2.length≤300) && decide (rs2.length≤600))):=by
  obtain ⟨m,rfl⟩ : ∃ m,k=m+1+1+1:=⟨k-3,by omega⟩
  unfold fleuronlaw27_few.f
  rw [fleuronlaw27_few.l0,if_pos (by simp),if_pos (by decide),if_pos (by simp)]
  have hr:rd_T25 [(⟨sz,cs,rs⟩:S25),⟨sz2,cs2,rs2⟩] 0=⟨sz,cs,rs⟩:=rfl
  rw [hr]
  by_cases h1:cs.length≤300
  · rw [if_neg (by simp only;omega),decide_eq_true h1,Bool.true_and]
    by_cases h2:rs.length≤600
    · rw [if_neg (by simp only;omega),decide_eq_true h2,Bool.true_and]
      have hw:wrap64 (0+1)=1:=wrap64_small (by omega) (by omega)
      rw [hw,fleuronlaw27_few.l0,if_pos (by simp),if_pos (by decide),if_pos (by simp)]
      have hr2:rd_T25 [(⟨sz,cs,rs⟩:S25),⟨sz2,cs2,rs2⟩] 1=⟨sz2,cs2,rs2⟩:=rfl
      rw [hr2]
      by_cases h3:cs2.length≤300
      · rw [if_neg (by simp only;omega),decide_eq_true h3,Bool.true_and]
        by_cases h4:rs2.length≤600
        · rw [if_neg (by simp only;omega),decide_eq_true h4]
          have hw:wrap64 (1+1)=2:=wrap64_small (by omega) (by omega)
          rw [hw,fleuronlaw27_few.l0,if_neg (by simp)]
        · rw [if_pos (by simp only;omega),decide_eq_false h4]
      · rw [if_pos (by simp only;omega),decide_eq_false h3];rfl
    · rw [if_pos (by simp only;omega),decide_eq_false h2];rfl
  · rw [if_pos (by simp only;omega),decide_eq_false h1];rfl
theorem codeR_is (n:Int):fleuronref27_code.f n=some (codeB n):=by
  unfold fleuronref27_code.f codeB
  by_cases h:n≥0
  · rw [if_pos h,decide_eq_true (show 0≤n from h)];rfl
  · rw [if_neg h,decide_eq_false (show ¬ 0≤n from h)];rfl
theorem coordR_is (n:Int):fleuronref27_coord.f n=some (coordB n):=by
  unfold fleuronref27_coord.f coordB
  by_cases h:n≥-268435455
  · rw [if_pos h,decide_eq_true (show -268435455≤n from h)];rfl
  · rw [if_neg h,decide_eq_false (show ¬ -268435455≤n from h)];rfl
theorem sizeR_is (n:Int):fleuronref27_Size.f n=some (sizeB n):=by
  unfold fleuronref27_Size.f sizeB
  by_cases h:n≥1
  · rw [if_pos h,decide_eq_true (show 1≤n from h)];rfl
  · rw [if_neg h,decide_eq_false (show ¬ 1≤n from h)];rfl
theorem charR_is (x:MC):fleuronref27_char.f x.f0 x.f1 x.f2 x.f3=some (okC x):=by
  unfold fleuronref27_char.f okC
  rw [codeR_is,coordR_is,coordR_is,coordR_is]
  cases codeB x.f0 <;> cases coordB x.f1 <;> cases coordB x.f2 <;> cases coordB x.f3 <;> rfl
theorem ruleR_is (x:MR) (k:Nat) (hk:1≤k):fleuronref27_rule.f k x.f0 x.f1 x.f2 x.f3=some (okR x):=by
  obtain ⟨m,rfl⟩ : ∃ m,k=m+1:=⟨k-1,by omega⟩
  unfold fleuronref27_rule.f okR
  rw [codeR_is,codeR_is]
  have ht : ∀ b a0 a1 a2 a3,b=true→fleuronref27_rule.j0 (m+1) b a0 a1 a2 a3=some false:=fun b a0 a1 a2 a3 h=>by rw [fleuronref27_rule.j0,if_pos h]
  have hf:fleuronref27_rule.j0 (m+1) false x.f0 x.f1 x.f2 x.f3=some (if x.f2=0 then coordB x.f3 else codeB x.f3):=by
    rw [fleuronref27_rule.j0,if_neg (by simp)]
    by_cases h:x.f2=0
    · rw [if_pos h,if_pos h,coordR_is];cases coordB x.f3 <;> rfl
    · rw [if_neg h,if_neg h,codeR_is];rfl
  by_cases h1:x.f2<0
  · rw [if_pos h1,ht _ _ _ _ _ rfl,decide_eq_false (show ¬ 0≤x.f2 by omega)];simp
  by_cases h2:x.f2>4
  · rw [if_neg h1,if_pos h2,ht _ _ _ _ _ rfl,decide_eq_false (show ¬ x.f2≤4 by omega)];simp
  rw [if_neg h1,if_neg h2,decide_eq_true (show 0≤x.f2 by omega),decide_eq_true (show x.f2≤4 by omega)]
  generalize hq:(if x.f2=0 then coordB x.f3 else codeB x.f3)=q at *
  cases codeB x.f0
  · simp [ht]
  · cases codeB x.f1
    · simp [ht]
    · simp [hf]
theorem okR_code {x:MR} (h:okR x=true):(0≤x.f0∧x.f0≤255)∧(0≤x.f1∧x.f1≤255):=by
  unfold okR codeB at h
  simp only [Bool.and_eq_true,decide_eq_true_eq] at h
  omega
theorem lessC_is (x y:MC):lessC x y=decide (x.f0<y.f0):=by
  unfold lessC cmpC cmpI
  by_cases h1:x.f0<y.f0
  · rw [if_pos h1,decide_eq_true h1];rfl
  · rw [if_neg h1,decide_eq_false h1]
    by_cases h2:y.f0<x.f0
    · rw [if_pos h2];rfl
    · rw [if_neg h2];rfl
theorem lessR_is {x y:MR} (hx:okR x=true) (hy:okR y=true):lessR x y=decide (256*x.f0+x.f1<256*y.f0+y.f1):=by
  have h1:=okR_code hx
  have h2:=okR_code hy
  unfold lessR cmpR cmpI
  by_cases a1:x.f0<y.f0
  · rw [if_pos a1,if_neg (by decide),decide_eq_true (show 256*x.f0+x.f1<256*y.f0+y.f1 by omega)];rfl
  · rw [if_neg a1]
    by_cases a2:y.f0<x.f0
    · rw [if_pos a2,if_neg (by decide),decide_eq_false (show ¬ 256*x.f0+x.f1<256*y.f0+y.f1 by omega)];rfl
    · rw [if_neg a2,if_pos rfl]
      by_cases a3:x.f1<y.f1
      · rw [if_pos a3,decide_eq_true (show 256*x.f0+x.f1<256*y.f0+y.f1 by omega)];rfl
      · rw [if_neg a3,decide_eq_false (show ¬ 256*x.f0+x.f1<256*y.f0+y.f1 by omega)]
        by_cases a4:y.f1<x.f1
        · rw [if_pos a4];rfl
        · rw [if_neg a4];rfl
theorem pairR_is {x:MR} (hx:okR x=true):fleuronref27_pair.f x.f0 x.f1 x.f2 x.f3=some (256*x.f0+x.f1):=by
  have h1:=okR_code hx
  unfold fleuronref27_pair.f
  rw [wrap64_small (n:=256*x.f0) (by omega) (by omega),wrap64_small (by omega) (by omega)]
theorem rd50_at (l:List MC) (i:Nat) (h:i<l.length):rd_T50 l (i:Int)=l[i]:=by
  unfold rd_T50
  rw [Int.toNat_natCast,List.getD_eq_getElem?_getD,List.getElem?_eq_getElem h]
  rfl
theorem rd45_at (l:List MR) (i:Nat) (h:i<l.length):rd_T45 l (i:Int)=l[i]:=by
  unfold rd_T45
  rw [Int.toNat_natCast,List.getD_eq_getElem?_getD,List.getElem?_eq_getElem h]
  rfl
theorem drop_at {α:Type} (l:List α) (i:Nat) (h:i<l.length):l.drop i=l[i]::l.drop (i+1):=List.drop_eq_getElem_cons h
theorem rulesR_go (rs:List MR) (hl:rs.length≤1000000) : ∀ (n i:Nat) (k:Nat),rs.length-i=n→1≤i→i≤rs.length→n+2≤k→(rs.take i).all okR=true→fleuronref27_Rules.l0 k rs rs (rs.length:Int) (i:Int)=some ((rs.drop i).all okR && (chainB lessR (rs.drop (i-1)) && decide (rs.length≤500))):=by
  intro n
  induction n with
  | zero =>
    intro i k hn h1 hi hk hok
    obtain ⟨m,rfl⟩ : ∃ m,k=m+1:=⟨k-1,by omega⟩
    obtain rfl:i=rs.length:=by omega
    rw [fleuronref27_Rules.l0,if_neg (by omega),List.drop_length,drop_at rs (rs.length-1) (by omega),show rs.length-1+1=rs.length by omega,List.drop_length]
    simp only [List.all_nil,Bool.true_and,chainB]
    congr 1
    by_cases h:rs.length≤500
    · rw [decide_eq_true h,decide_eq_true (show (rs.length:Int)≤500 by omega)]
    · rw [decide_eq_false h,decide_eq_false (show ¬ (rs.length:Int)≤500 by omega)]
  | succ n ih =>
    intro i k hn h1 hi hk hok
    obtain ⟨m,rfl⟩ : ∃ m,k=m+1:=⟨k-1,by omega⟩
    have hlt:i<rs.length:=by omega
    have hw:wrap64 ((i:Int)-1)=((i-1:Nat):Int):=by rw [wrap64_small (by omega) (by omega)];omega
    have hw2:wrap64 ((i:Int)+1)=((i+1:Nat):Int):=by rw [wrap64_small (by omega) (by omega)];omega
    rw [fleuronref27_Rules.l0,if_pos (by omega),if_pos (by omega),if_pos (by omega),rd45_at rs i hlt,ruleR_is _ _ (by omega),Option.bind_some,drop_at rs i hlt]
    have hprev:okR rs[i-1]=true:=List.all_eq_true.mp hok _ (by
      have:(rs.take i)[i-1]'(by simp;omega)=rs[i-1]:=by simp
      rw [← this];exact List.getElem_mem _)
    have hd:rs.drop (i-1)=rs[i-1]::rs[i]::rs.drop (i+1):=by
      rw [drop_at rs (i-1) (by omega),show i-1+1=i by omega,drop_at rs i hlt]
    cases hq:okR rs[i] with
    | false=>rw [if_neg (by simp),List.all_cons,hq];rfl
    | true =>
      rw [if_pos rfl,if_pos (by omega),hw,if_pos (by omega),if_pos (by omega),rd45_at rs (i-1) (by omega),pairR_is hprev,Option.bind_some,pairR_is hq,Option.bind_some,hd]
      simp only [List.all_cons,hq,Bool.true_and,chainB]
      rw [lessR_is hprev hq]
      by_cases hg:256*rs[i-1].f0+rs[i-1].f1≥256*rs[i].f0+rs[i].f1
      · rw [if_pos hg,decide_eq_false (by omega)];simp
      · rw [if_neg hg,decide_eq_true (by omega),hw2,ih (i+1) m (by omega) (by omega) (by omega) (by omega) (by
          rw [List.take_add_one,List.getElem?_eq_getElem hlt,List.all_append,hok];simp [hq])]
        rw [show i+1-1=i by omega,drop_at rs i hlt]
        simp
theorem rulesR_is (rs:List MR) (hl:rs.length≤1000000) (k:Nat) (hk:rs.length+3≤k):fleuronref27_Rules.f k rs=some (validR rs):=by
  obtain ⟨m,rfl⟩ : ∃ m,k=m+1:=⟨k-1,by omega⟩
  unfold fleuronref27_Rules.f validR
  rw [fleuronref27_Rules.l0]
  by_cases h0:rs.length=0
  · obtain rfl:rs=[]:=List.length_eq_zero_iff.mp h0
    rfl
  · rw [if_pos (by omega),if_pos (by omega),if_pos (by omega)]
    have hz:rd_T45 rs 0=rs[0]:=rd45_at rs 0 (by omega)
    rw [hz,ruleR_is _ _ (by omega),Option.bind_some]
    have hd:rs=rs[0]::rs.drop 1:=by have:=drop_at rs 0 (by omega);rw [List.drop_zero] at this;exact this
    have hw:wrap64 (0+1)=((1:Nat):Int):=wrap64_small (by omega) (by omega)
    cases hq:okR rs[0] with
    | false =>
      rw [if_neg (by simp)]
      have:rs.all okR=false:=by rw [hd,List.all_cons,hq];rfl
      rw [this];simp
    | true =>
      have ha:rs.all okR=(rs.drop 1).all okR:=by conv=>lhs;rw [hd,List.all_cons,hq,Bool.true_and]
      rw [if_pos rfl,if_neg (by decide),hw,rulesR_go rs hl (rs.length-1) 1 m rfl (by omega) (by omega) (by omega) (by
        have:rs.take 1=[rs[0]]:=by rw [List.take_one,List.head?_eq_getElem?,List.getElem?_eq_getElem (by omega)];rfl
        rw [this];simp [hq])]
      rw [ha,show (1-1:Nat)=0 from rfl,List.drop_zero]
      cases (rs.drop 1).all okR <;> cases chainB lessR rs <;> cases decide (rs.length≤500) <;> rfl
theorem validR_go (sz:Int) (cs:List MC) (rs:List MR) (hl:cs.length≤1000000) (hr:rs.length≤1000000) : ∀ (n i:Nat) (k:Nat),cs.length-i=n→1≤i→i≤cs.length→n+rs.length+5≤k→fleuronref27_Valid.l0 k cs (cs.length:Int) (i:Int) sz cs rs=some ((cs.drop i).all okC && (chainB lessC (cs.drop (i-1)) && (sizeB sz && (decide (cs.length≤256) && validR rs)))):=by
  intro n
  induction n with
  | zero =>
    intro i k hn h1 hi hk
    obtain ⟨m,rfl⟩ : ∃ m,k=m+1:=⟨k-1,by omega⟩
    obtain rfl:i=cs.length:=by omega
    rw [fleuronref27_Valid.l0,if_neg (by omega),List.drop_length,drop_at cs (cs.length-1) (by omega),show cs.length-1+1=cs.length by omega,List.drop_length,sizeR_is,Option.bind_some,rulesR_is rs hr m (by omega)]
    simp only [List.all_nil,Bool.true_and,chainB]
    cases sizeB sz with
    | false=>rfl
    | true =>
      rw [if_pos rfl]
      by_cases h:cs.length≤256
      · rw [if_pos (by omega),decide_eq_true h];rfl
      · rw [if_neg (by omega),decide_eq_false h];rfl
  | succ n ih =>
    intro i k hn h1 hi hk
    obtain ⟨m,rfl⟩ : ∃ m,k=m+1:=⟨k-1,by omega⟩
    have hlt:i<cs.length:=by omega
    have hw:wrap64 ((i:Int)-1)=((i-1:Nat):Int):=by rw [wrap64_small (by omega) (by omega)];omega
    have hw2:wrap64 ((i:Int)+1)=((i+1:Nat):Int):=by rw [wrap64_small (by omega) (by omega)];omega
    rw [fleuronref27_Valid.l0,if_pos (by omega),if_pos (by omega),if_pos (by omega),rd50_at cs i hlt,charR_is,Option.bind_some,drop_at cs i hlt]
    have hd:cs.drop (i-1)=cs[i-1]::cs[i]::cs.drop (i+1):=by
      rw [drop_at cs (i-1) (by omega),show i-1+1=i by omega,drop_at cs i hlt]
    cases hq:okC cs[i] with
    | false=>rw [if_neg (by simp),List.all_cons,hq];rfl
    | true =>
      rw [if_pos rfl,if_pos (by omega),hw,if_pos (by omega),if_pos (by omega),rd50_at cs (i-1) (by omega),hd]
      simp only [List.all_cons,hq,Bool.true_and,chainB]
      rw [lessC_is]
      by_cases hg:cs[i-1].f0≥cs[i].f0
      · rw [if_pos hg,decide_eq_false (by omega)];simp
      · rw [if_neg hg,decide_eq_true (by omega),hw2,ih (i+1) m (by omega) (by omega) (by omega) (by omega)]
        rw [show i+1-1=i by omega,drop_at cs i hlt]
        simp
theorem validR_is (sz:Int) (cs:List MC) (rs:List MR) (hl:cs.length≤1000000) (hr:rs.length≤1000000) (k:Nat) (hk:cs.length+rs.length+8≤k):fleuronref27_Valid.f k sz cs rs=some (validM sz cs rs):=by
  obtain ⟨m,rfl⟩ : ∃ m,k=m+1:=⟨k-1,by omega⟩
  unfold fleuronref27_Valid.f validM
  rw [fleuronref27_Valid.l0]
  by_cases h0:cs.length=0
  · obtain rfl:cs=[]:=List.length_eq_zero_iff.mp h0
    rw [if_neg (by simp),sizeR_is,Option.bind_some,rulesR_is rs hr m (by omega)]
    cases sizeB sz <;> rfl
  · rw [if_pos (by omega),if_pos (by omega),if_pos (by omega)]
    have hz:rd_T50 cs 0=cs[0]:=rd50_at cs 0 (by omega)
    rw [hz,charR_is,Option.bind_some]
    have hd:cs=cs[0]::cs.drop 1:=by have:=drop_at cs 0 (by omega);rw [List.drop_zero] at this;exact this
    have hw:wrap64 (0+1)=((1:Nat):Int):=wrap64_small (by omega) (by omega)
    cases hq:okC cs[0] with
    | false =>
      rw [if_neg (by simp)]
      have:cs.all okC=false:=by rw [hd,List.all_cons,hq];rfl
      rw [this];simp
    | true =>
      have ha:cs.all okC=(cs.drop 1).all okC:=by conv=>lhs;rw [hd,List.all_cons,hq,Bool.true_and]
      rw [if_pos rfl,if_neg (by decide),hw,validR_go sz cs rs hl hr (cs.length-1) 1 m rfl (by omega) (by omega) (by omega)]
      rw [ha,show (1-1:Nat)=0 from rfl,List.drop_zero]
      cases (cs.drop 1).all okC <;> cases chainB lessC cs <;> cases sizeB sz <;> cases decide (cs.length≤256) <;> simp
theorem neC_is (x y:MC):(!(x.f0 == y.f0) || (!(x.f1 == y.f1) || (!(x.f2 == y.f2) || (!(x.f3 == y.f3)))))=true↔x≠y:=by
  obtain ⟨a0,a1,a2,a3⟩:=x
  obtain ⟨b0,b1,b2,b3⟩:=y
  simp only [Bool.or_eq_true,Bool.not_eq_true',beq_eq_false_iff_ne,ne_eq,S50.mk.injEq]
  constructor
  · intro h hh;obtain ⟨rfl,rfl,rfl,rfl⟩:=hh;simp at h
  · intro h
    by_cases h0:a0=b0
    · by_cases h1:a1=b1
      · by_cases h2:a2=b2
        · by_cases h3:a3=b3
          · exact absurd ⟨h0,h1,h2,h3⟩ h
          · exact .inr (.inr (.inr h3))
        · exact .inr (.inr (.inl h2))
      · exact .inr (.inl h1)
    · exact .inl h0
theorem neR_is (x y:MR):(!(x.f0 == y.f0) || (!(x.f1 == y.f1) || (!(x.f2 == y.f2) || (!(x.f3 == y.f3)))))=true↔x≠y:=by
  obtain ⟨a0,a1,a2,a3⟩:=x
  obtain ⟨b0,b1,b2,b3⟩:=y
  simp only [Bool.or_eq_true,Bool.not_eq_true',beq_eq_false_iff_ne,ne_eq,S45.mk.injEq]
  constructor
  · intro h hh;obtain ⟨rfl,rfl,rfl,rfl⟩:=hh;simp at h
  · intro h
    by_cases h0:a0=b0
    · by_cases h1:a1=b1
      · by_cases h2:a2=b2
        · by_cases h3:a3=b3
          · exact absurd ⟨h0,h1,h2,h3⟩ h
          · exact .inr (.inr (.inr h3))
        · exact .inr (.inr (.inl h2))
      · exact .inr (.inl h1)
    · exact .inl h0
theorem same1_go (sz:Int) (cs:List MC) (rs:List MR) (hr:rs.length≤1000000) : ∀ (n i k:Nat),rs.length-i=n→i≤rs.length→n+1≤k→fleuronref27_Same.l1 k (rs.length:Int) (i:Int) sz cs rs sz cs rs=some true:=by
  intro n
  induction n with
  | zero =>
    intro i k hn hi hk
    obtain ⟨m,rfl⟩ : ∃ m,k=m+1:=⟨k-1,by omega⟩
    rw [fleuronref27_Same.l1,if_neg (by omega)]
  | succ n ih =>
    intro i k hn hi hk
    obtain ⟨m,rfl⟩ : ∃ m,k=m+1:=⟨k-1,by omega⟩
    have hw2:wrap64 ((i:Int)+1)=((i+1:Nat):Int):=by rw [wrap64_small (by omega) (by omega)];omega
    rw [fleuronref27_Same.l1,if_pos (by omega),if_pos (by omega),if_pos (by omega),if_pos (by omega),if_neg (by rw [neR_is];simp),hw2]
    exact ih (i+1) m (by omega) (by omega) (by omega)
theorem same0_go (sz:Int) (cs:List MC) (rs:List MR) (hl:cs.length≤1000000) (hr:rs.length≤1000000) : ∀ (n i k:Nat),cs.length-i=n→i≤cs.length→n+rs.length+3≤k→fleuronref27_Same.l0 k (cs.length:Int) (i:Int) sz cs rs sz cs rs=some true:=by
  intro n
  induction n with
  | zero =>
    intro i k hn hi hk
    obtain ⟨m,rfl⟩ : ∃ m,k=m+1:=⟨k-1,by omega⟩
    rw [fleuronref27_Same.l0,if_neg (by omega)]
    exact same1_go sz cs rs hr rs.length 0 m (by omega) (by omega) (by omega)
  | succ n ih =>
    intro i k hn hi hk
    obtain ⟨m,rfl⟩ : ∃ m,k=m+1:=⟨k-1,by omega⟩
    have hw2:wrap64 ((i:Int)+1)=((i+1:Nat):Int):=by rw [wrap64_small (by omega) (by omega)];omega
    rw [fleuronref27_Same.l0,if_pos (by omega),if_pos (by omega),if_pos (by omega),if_pos (by omega),if_neg (by rw [neC_is];simp),hw2]
    exact ih (i+1) m (by omega) (by omega) (by omega)
theorem same_is (sz:Int) (cs:List MC) (rs:List MR) (hl:cs.length≤1000000) (hr:rs.length≤1000000) (k:Nat) (hk:cs.length+rs.length+5≤k):fleuronref27_Same.f k sz cs rs sz cs rs=some true:=by
  obtain ⟨m,rfl⟩ : ∃ m,k=m+1:=⟨k-1,by omega⟩
  unfold fleuronref27_Same.f
  rw [if_pos rfl,if_pos rfl,fleuronref27_Same.j0,if_neg (by simp)]
  exact same0_go sz cs rs hl hr cs.length 0 m (by omega) (by omega) (by omega)
theorem scaleV_is (v s m:Int) (hm:1≤m):scaleV v s m=(2*v*s+m) / (2*m):=by
  unfold scaleV
  generalize 2*v*s+m=p
  have h2:0<2*m:=by omega
  generalize 2*m=d at *
  rw [Int.tdiv_eq_ediv,Int.tmod_eq_emod]
  have he:=Int.emod_nonneg p (show d≠0 by omega)
  have hl:=Int.emod_lt_of_pos p h2
  by_cases h:0≤p∨d ∣ p
  · rw [if_pos h,if_pos h]
    simp only [Int.add_zero,Int.sub_zero]
    rw [if_neg (by omega)]
  · rw [if_neg h,if_neg h]
    have hs:d.sign=1:=Int.sign_eq_one_of_pos h2
    have hne:p % d≠0:=fun h0=>h (.inr (Int.dvd_of_emod_eq_zero h0))
    rw [hs,if_pos (by have:(d.natAbs:Int)=d:=Int.natAbs_of_nonneg (by omega);omega)]
    omega
theorem scaleV_self (v m:Int) (hm:1≤m):scaleV v m m=v:=by
  rw [scaleV_is v m m hm]
  have:2*v*m+m=m+2*m*v:=by grind
  rw [this,Int.add_mul_ediv_left _ _ (by omega),Int.ediv_eq_zero_of_lt (by omega) (by omega)]
  omega
theorem scaleV_dbl (v m:Int) (hm:1≤m):scaleV v (2*m) m=2*v:=by
  rw [scaleV_is v (2*m) m hm]
  have:2*v*(2*m)+m=m+2*m*(2*v):=by grind
  rw [this,Int.add_mul_ediv_left _ _ (by omega),Int.ediv_eq_zero_of_lt (by omega) (by omega)]
  omega
end Go.Proofs.YtoemkemmiikhlaaGreat.PF1

import Derived.Test.YtoemkemmiikhlaaGreatPF4x0
import Derived.Test.YtoemkemmiikhlaaGreatPF4x1
import Derived.Test.YtoemkemmiikhlaaGreatPF4x2
import Derived.Test.YtoemkemmiikhlaaGreatPF4x3
import Derived.Test.YtoemkemmiikhlaaGreatPF4x7
namespace Go.Proofs.YtoemkemmiikhlaaGreat.PF4
open Go.RowKit Go.Proofs.YtoemkemmiikhlaaGreatW.PrintWords Go.Proofs.YtoemkemmiikhlaaGreatW.PrintLast Go.Proofs.YtoemkemmiikhlaaGreatW.PrintMore
attribute [local go_sem] max2_int min2_int max_two min_two max_three min_three max_four min_four
set_option linter.unusedVariables false
set_option linter.unusedSimpArgs false
def fleuronref27_coord.f (a:Int):Option Bool:=some (coordB a)
theorem fleuronref27_coord.calls (a:Int) (r:Bool) (w:World) (h:fleuronref27_coord.f a=some r):Calls Tryz.prog 66 #[.int .i64 a] w fun e w'=>e = .returned (.bool r)∧Drawn0 w w':=by
 obtain rfl:=Option.some.inj h
 clear h
 unfold coordB
 by_cases c : -268435455≤a
 ·have c0:decide (-268435455≤a)=true:=decide_eq_true c
  rw [c0]
  go_enter Tryz.func66,Tryz.ntmps66
  go_wp2
  go_ret
  exact ⟨rfl,by repeat (first|exact Drawn0.refl _|apply Drawn0.step)⟩
 ·have c0:decide (-268435455≤a)=false:=decide_eq_false c
  rw [c0]
  go_enter Tryz.func66,Tryz.ntmps66
  go_wp2
  go_ret
  exact ⟨rfl,by repeat (first|exact Drawn0.refl _|apply Drawn0.step)⟩
theorem coordW_is (n:Int):fleuronref27_coord.f n=some (coordB n):=rfl
def fleuronref27_code.f (a:Int):Option Bool:=some (codeB a)
theorem fleuronref27_code.calls (a:Int) (r:Bool) (w:World) (h:fleuronref27_code.f a=some r):Calls Tryz.prog 88 #[.int .i64 a] w fun e w'=>e = .returned (.bool r)∧Drawn0 w w':=by
 obtain rfl:=Option.some.inj h
 clear h
 unfold codeB
 by_cases c:0≤a
 ·have c0:decide (0≤a)=true:=decide_eq_true c
  rw [c0]
  go_enter Tryz.func88,Tryz.ntmps88
  go_wp2
  go_ret
  exact ⟨rfl,by repeat (first|exact Drawn0.refl _|apply Drawn0.step)⟩
 ·have c0:decide (0≤a)=false:=decide_eq_false c
  rw [c0]
  go_enter Tryz.func88,Tryz.ntmps88
  go_wp2
  go_ret
  exact ⟨rfl,by repeat (first|exact Drawn0.refl _|apply Drawn0.step)⟩
theorem codeW_is (n:Int):fleuronref27_code.f n=some (codeB n):=rfl
def fleuronref27_char.f (a0 a1 a2 a3:Int):Option Bool:=some (okC ⟨a0,a1,a2,a3⟩)
set_option maxHeartbeats 8000000 in
theorem fleuronref27_char.calls (a0 a1 a2 a3 : Int) (r : Bool) (w : World) (h : fleuronref27_char.f a0 a1 a2 a3 = some r) :
  Calls Tryz.prog 38 #[.agg #[.int .i64 a0,.int .i64 a1,.int .i64 a2,.int .i64 a3]] w fun e w'=>e = .returned (.bool r)∧Below w.heap.size w w':=by
 have hu:=Tryz.underlying50
 obtain rfl:=Option.some.inj h
 clear h
 have C0:=aK (fun V=>fleuronref27_code.calls a0 _ V rfl)
 have C1:=aK (fun V=>fleuronref27_coord.calls a1 _ V rfl)
 have C2:=aK (fun V=>fleuronref27_coord.calls a2 _ V rfl)
 have C3:=aK (fun V=>fleuronref27_coord.calls a3 _ V rfl)
 unfold okC
 dsimp only
 generalize codeB a0=p at *
 generalize coordB a1=q1 at *
 generalize coordB a2=q2 at *
 generalize coordB a3=q3 at *
 have hsp:p=false∨(p=true∧q1=false)∨(p=true∧q1=true∧q2=false)∨(p=true∧q1=true∧q2=true):=by cases p <;> cases q1 <;> cases q2 <;> simp
 rcases hsp with rfl|⟨rfl,rfl⟩|⟨rfl,rfl,rfl⟩|⟨rfl,rfl,rfl⟩
 all_goals
  go_enter Tryz.func38,Tryz.ntmps38
  go_wp2_with (first|((with_reducible refine gate_dst (N:=1) rfl ?_);refine box_event ?hg (N:=1) ?hd (cs:=#[.int .i64 a0,.int .i64 a1,.int .i64 a2,.int .i64 a3]) (t:=50) ?hr ?_;(case hd=>rfl);(case hg=>rfl);(case hr=>first|(go_simp;done)|(go_simp;rfl));intro g hg V hbox hb;have HB:=aK hb;have P0:V.cell? ⟨g,0,none⟩=some (.int .i64 a0):=(blk_cell hbox 0).trans rfl;have P1:V.cell? ⟨g,1,none⟩=some (.int .i64 a1):=(blk_cell hbox 1).trans rfl;have P2:V.cell? ⟨g,2,none⟩=some (.int .i64 a2):=(blk_cell hbox 2).trans rfl;have P3:V.cell? ⟨g,3,none⟩=some (.int .i64 a3):=(blk_cell hbox 3).trans rfl;clear hbox hg hb)|(go_at_call 88;(with_reducible refine (C0.out _).mono ?_);rintro e w' ⟨rfl,⟨nd,rfl⟩⟩)|(go_at_call 66;(with_reducible refine (C1.out _).mono ?_);rintro e w' ⟨rfl,⟨nd,rfl⟩⟩)|(go_at_call 66;(with_reducible refine (C2.out _).mono ?_);rintro e w' ⟨rfl,⟨nd,rfl⟩⟩)|(go_at_call 66;(with_reducible refine (C3.out _).mono ?_);rintro e w' ⟨rfl,⟨nd,rfl⟩⟩))
  go_ret
  exact ⟨rfl,by repeat (first|(with_reducible first|exact HB.out|apply pw_below_drewN|apply below_drew1)|exact HB.out)⟩
theorem charW_is (x:S50):fleuronref27_char.f x.f0 x.f1 x.f2 x.f3=some (okC x):=rfl
theorem lessC_is (x y:S50):lessC x y=decide (x.f0<y.f0):=by
 unfold lessC cmpC cmpI
 by_cases h1:x.f0<y.f0
 ·rw [if_pos h1,decide_eq_true h1];rfl
 ·rw [if_neg h1,decide_eq_false h1]
  by_cases h2:y.f0<x.f0
  ·rw [if_pos h2];rfl
  ·rw [if_neg h2];rfl
def fleuronref27_Size.f (a:Int):Option Bool:=some (sizeB a)
theorem fleuronref27_Size.calls (a:Int) (r:Bool) (w:World) (h:fleuronref27_Size.f a=some r):Calls Tryz.prog 39 #[.int .i64 a] w fun e w'=>e = .returned (.bool r)∧Drawn0 w w':=by
 obtain rfl:=Option.some.inj h
 clear h
 unfold sizeB
 by_cases c:1≤a
 ·have c0:decide (1≤a)=true:=decide_eq_true c
  rw [c0]
  go_enter Tryz.func39,Tryz.ntmps39
  go_wp2
  go_ret
  exact ⟨rfl,by repeat (first|exact Drawn0.refl _|apply Drawn0.step)⟩
 ·have c0:decide (1≤a)=false:=decide_eq_false c
  rw [c0]
  go_enter Tryz.func39,Tryz.ntmps39
  go_wp2
  go_ret
  exact ⟨rfl,by repeat (first|exact Drawn0.refl _|apply Drawn0.step)⟩
theorem sizeW_is (n:Int):fleuronref27_Size.f n=some (sizeB n):=rfl
theorem reads_list {α : Type} {R : α → List Value → Prop} {size : Nat} {w : World} {ad : Addr} (ps : List α) (h : ∀ j p, ps[j]? = some p → ∃ c, c.length = size ∧ R p c ∧ ∀ i u, c[i]? = some u → w.cell? (ad.add (j * size + i)) = some u) : ∀ m, m ≤ ps.length → ∃ os : List Value, Reps R size (ps.take m) os ∧ ∀ j u, os[j]? = some u → w.cell? (ad.add j) = some u
 | 0,_=>⟨[],Reps.none _ _,fun j u hj=>by simp at hj⟩
 | m+1,hm=>by
  obtain ⟨os,h1,h2⟩:=reads_list ps h m (by omega)
  obtain ⟨c,hc,hp,hcell⟩:=h m ps[m] (List.getElem?_eq_getElem (by omega))
  refine ⟨os++c,?_,fun j u hj=>?_⟩
  ·rw [List.take_succ_eq_append_getElem (by omega)]
   exact Reps.snoc h1 hp hc
  ·rcases Nat.lt_or_ge j os.length with hj2|hj2
   ·rw [List.getElem?_append_left hj2] at hj;exact h2 j u hj
   ·rw [List.getElem?_append_right hj2] at hj
    have hl:os.length=m*size:=by rw [h1.1,List.length_take,Nat.min_eq_left (by omega)]
    have:=hcell (j-os.length) u hj
    rwa [hl,show m*size+(j-m*size)=j by omega] at this
theorem cut_append_step {P : Program} {ops : Array Oper} {o : Oper} {a : Act} {w : World} {K : Act → World → Prop} {Q : Exit → Act → World → Prop} {E : Prop} {α : Type} (d : Kd α) (hflat : ∀ w x cs, d.K w x cs → ∀ w' base ok, d.M w' base ok x cs)
  (hg:o.guard=none) (s x:Operand) (t:TypeId) (hop:o.op=Op.call { callee:=Callee.builtin Builtin.append,args:=#[s,x],argTypes:=#[t,t] })
  (e:TypeId) (z:Value) (bytes:Nat) (h1:P.underlying t=some (.slice e)) (hinfo:(P.info? e).map (fun i=>(i.zero,i.size,i.bytes))=some (some z,d.sz,bytes)) (hz:z.cells.size=d.sz) (hs0:0<d.sz)
  (A:Option Addr) (j:Nat) (xs:List α) (hs:a.eval s = .slice A j j) (hC:d.C w A j xs)
  (A2:Option Addr) (m c:Nat) (ys:List α) (hx:a.eval x = .slice A2 m c) (hY:d.C w A2 m ys) (hm:0<m) (b1:j+m≤maxLen) (b2:(j+m)*bytes≤140737488355328)
  (base:Nat) (hb:base≤w.heap.size) (ok:Nat→Prop) (hok : ∀ k,w.heap.size≤k→ok k)
  (hK : ∀ v' w',d.R e w' base ok v' (xs++ys)→w.grownBy w' none→K (a.put o.dst v') w') :
  if Region.wanted o (yielded ops a.tmps)=true then Oper.wp P o a w K Q else E:=by
 obtain ⟨i0,hi,hzz⟩:=Option.map_eq_some_iff.1 hinfo
 simp only [Prod.mk.injEq] at hzz
 obtain ⟨hz0,hz1,hz2⟩:=hzz
 have lx:xs.length=j:=hC.1
 have ly:ys.length=m:=hY.1
 obtain ⟨ad,e2,hcy⟩:=hY.2.2 hm
 obtain ⟨ns,hn1,hn2⟩:=reads_list ys hcy m (by omega)
 rw [List.take_of_length_le (by omega)] at hn1
 obtain ⟨os,ho1,ho2⟩ : ∃ os:List Value,Reps (d.K w) d.sz xs os∧∀ b,A=some b→∀ i u,os[i]?=some u→w.cell? (b.add i)=some u:=by
  rcases Nat.eq_zero_or_pos j with h0|h0
  ·obtain rfl:xs=[]:=List.eq_nil_of_length_eq_zero (by omega)
   exact ⟨[],Reps.none _ _,fun b _ i u hi=>by simp at hi⟩
  ·obtain ⟨b,e3,hcx⟩:=hC.2.2 h0
   obtain ⟨os,h2,h3⟩:=reads_list xs hcx j (by omega)
   rw [List.take_of_length_le (by omega)] at h2
   exact ⟨os,h2,fun b' hb'=>by rw [e3] at hb';injection hb' with hb';subst hb';exact h3⟩
 have hns1 : ∀ u∈ns,u.oneCell'=true:=fun u hu=>by
  obtain ⟨i,hi2,rfl⟩:=List.getElem_of_mem hu
  have hl:=hn1.1
  have hdiv:i / d.sz<ys.length:=by rw [hl] at hi2;exact Nat.div_lt_of_lt_mul (by rw [Nat.mul_comm];exact hi2)
  refine d.K_one (hn1.2 (i / d.sz) _ (List.getElem?_eq_getElem hdiv)) _ ?_
  have hlt:i % d.sz<d.sz:=Nat.mod_lt _ hs0
  have hsum:i / d.sz*d.sz+i % d.sz=i:=by rw [Nat.mul_comm];exact Nat.div_add_mod i d.sz
  have hg2:((ns.drop (i / d.sz*d.sz)).take d.sz)[i % d.sz]?=some ns[i]:=by
   rw [List.getElem?_take_of_lt hlt,List.getElem?_drop,hsum,List.getElem?_eq_getElem hi2]
  exact List.mem_of_getElem? hg2
 subst e2
 refine step_append_grows hg s x t hop e i0 z d.sz bytes h1 hi hz0 hz1 hz2 hz hs0 A j j os hs (fun e0=>?_) (by rw [ho1.1,lx]) ho2 ad m c ns hx (by rw [hn1.1,ly]) hn2 hns1 (by omega) b1 b2 ?_
 ·rcases Nat.eq_zero_or_pos j with h0|h0
  ·exact ⟨h0,h0⟩
  ·obtain ⟨b,e3,-⟩:=hC.2.2 h0
   rw [e0] at e3
   cases e3
 ·intro v' w' hown hgrow
  refine hK v' w' ⟨fun k hk=>hok k (own_base hown k hk),os++ns,?_,(Kd.reps_append ho1 hn1).imp_ (fun _ _ hp=>hflat _ _ _ hp _ _ _)⟩ hgrow
  rw [List.length_append,lx,ly]
  exact own_weaken hown hb
theorem flatC : ∀ (w:World) (x:S50) (cs:List Value),k50.K w x cs→∀ w' base ok,k50.M w' base ok x cs:=fun w x cs h w' base ok=>by
 rw [k50_open h]
 exact k50_mkM _ _ _ x
theorem flatR : ∀ (w:World) (x:S45) (cs:List Value),k45.K w x cs→∀ w' base ok,k45.M w' base ok x cs:=fun w x cs h w' base ok=>by
 rw [k45_open h]
 exact k45_mkM _ _ _ x
theorem flatI : ∀ (w:World) (x:Int) (cs:List Value),(Kd.int .i64).K w x cs→∀ w' base ok,(Kd.int .i64).M w' base ok x cs:=fun _ _ _ h _ _ _=>h
theorem all_next {α:Type} (p:α→Bool) (l:List α) (i:Nat) (h:i<l.length):(l.take (i+1)).all p=((l.take i).all p && p l[i]):=by
 rw [List.take_add_one,List.getElem?_eq_getElem h,List.all_append]
 simp
theorem map_next {α β:Type} (f:α→β) (l:List α) (i:Nat) (h:i<l.length):(l.take (i+1)).map f=(l.take i).map f++[f l[i]]:=by
 rw [List.take_add_one,List.getElem?_eq_getElem h,List.map_append]
 rfl
structure ResS (w W:World) (b4:Nat):Prop where
 below:Below w.heap.size w W
 le:w.heap.size≤b4
 res:W.heap[b4]?=some (.cells #[.int .i64 0,.slice none 0 0,.slice none 0 0] 25 (0,0))
theorem ResS.ofBelow {w W W':World} {b4:Nat} (h:ResS w W b4) (hb:Below W.heap.size W W'):ResS w W' b4:=⟨below_step h.below hb,h.le,blk_below h.res hb⟩
structure MetS (w W:World) (b4 bm:Nat) (sz:Int) (cs:List S50) (rs:List S45):Prop where
 base:ResS w W b4
 le:w.heap.size≤bm
 ne:b4≠bm
 met : ∃ v1 v2,W.heap[bm]?=some (.cells #[.int .i64 sz,v1,v2] 25 (0,0))∧Kd.R k50 50 W w.heap.size (fun _=>True) v1 cs∧Kd.R k45 45 W w.heap.size (fun _=>True) v2 rs
section
variable {w W W':World} {b4 bm:Nat} {sz:Int} {cs cs':List S50} {rs rs':List S45} {v1:Value}
theorem MetS.ofBelow (h:MetS w W b4 bm sz cs rs) (hb:Below W.heap.size W W'):MetS w W' b4 bm sz cs rs:=by
 obtain ⟨h1,h2,h3,u1,u2,h5,h6,h7⟩:=h
 exact ⟨h1.ofBelow hb,h2,h3,u1,u2,blk_below h5 hb,Kd.R_below h6 hb,Kd.R_below h7 hb⟩
theorem MetS.putC (h:MetS w W b4 bm sz cs rs) (hk:KeepT 50 W W') (hB:Below w.heap.size w W') (hr:Kd.R k50 50 W' w.heap.size (fun _=>True) v1 cs'):MetS w (W'.setCell ⟨bm,1,none⟩ v1) b4 bm sz cs' rs:=by
 obtain ⟨h1,h2,h3,u1,u2,h5,h6,h7⟩:=h
 have g5:=hk.blk h5 (by decide)
 exact ⟨⟨below_set hB h2,h1.le,blk_far (hk.blk h1.res (by decide)) h3 _⟩,h2,h3,_,_,blk_put g5 1 v1 rfl,Kd.R_set hr g5 (fun q hq=>by rw [opq50 q hq];decide) 1 v1,Kd.R_set (hk.row h7 (fun q hq=>by rw [opq45 q hq];decide)) g5 (fun q hq=>by rw [opq45 q hq];decide) 1 v1⟩
theorem MetS.putR (h:MetS w W b4 bm sz cs rs) (hk:KeepT 45 W W') (hB:Below w.heap.size w W') (hr:Kd.R k45 45 W' w.heap.size (fun _=>True) v1 rs'):MetS w (W'.setCell ⟨bm,2,none⟩ v1) b4 bm sz cs rs':=by
 obtain ⟨h1,h2,h3,u1,u2,h5,h6,h7⟩:=h
 have g5:=hk.blk h5 (by decide)
 exact ⟨⟨below_set hB h2,h1.le,blk_far (hk.blk h1.res (by decide)) h3 _⟩,h2,h3,_,_,blk_put g5 2 v1 rfl,Kd.R_set (hk.row h6 (fun q hq=>by rw [opq50 q hq];decide)) g5 (fun q hq=>by rw [opq50 q hq];decide) 2 v1,Kd.R_set hr g5 (fun q hq=>by rw [opq45 q hq];decide) 2 v1⟩
theorem MetS.far {g j:Nat} {t:TypeId} {xs:Array Value} {v:Value} (h:MetS w W b4 bm sz cs rs) (hg:W.heap[g]?=some (.cells xs t (0,0))) (hw:w.heap.size≤g) (n1:25≠t) (n2:50≠t) (n3:45≠t):MetS w (W.setCell ⟨g,j,none⟩ v) b4 bm sz cs rs:=by
 obtain ⟨h1,h2,h3,u1,u2,h5,h6,h7⟩:=h
 exact ⟨⟨below_set h1.below hw,h1.le,blk_far h1.res (blk_ne h1.res hg n1) _⟩,h2,h3,_,_,blk_far h5 (blk_ne h5 hg n1) _,Kd.R_set h6 hg (fun q hq=>by rw [opq50 q hq];exact n2) j v,Kd.R_set h7 hg (fun q hq=>by rw [opq45 q hq];exact n3) j v⟩
end
def fleuronref27_rule.f (a0 a1 a2 a3:Int):Option Bool:=some (okR ⟨a0,a1,a2,a3⟩)
set_option maxHeartbeats 8000000 in
theorem fleuronref27_rule.calls (a0 a1 a2 a3 : Int) (r : Bool) (w : World) (h : fleuronref27_rule.f a0 a1 a2 a3 = some r) :
  Calls Tryz.prog 56 #[.agg #[.int .i64 a0,.int .i64 a1,.int .i64 a2,.int .i64 a3]] w fun e w'=>e = .returned (.bool r)∧Below w.heap.size w w':=by
 have hu:=Tryz.underlying45
 obtain rfl:=Option.some.inj h
 clear h
 have C0:=aK (fun V=>fleuronref27_code.calls a0 _ V rfl)
 have C1:=aK (fun V=>fleuronref27_code.calls a1 _ V rfl)
 have C3:=aK (fun V=>fleuronref27_code.calls a3 _ V rfl)
 have D3:=aK (fun V=>fleuronref27_coord.calls a3 _ V rfl)
 unfold okR
 dsimp only
 generalize codeB a0=p at *
 generalize codeB a1=q at *
 generalize codeB a3=s at *
 generalize coordB a3=t at *
 by_cases h1:a2<0
 ·have d1:decide (a2<0)=true:=decide_eq_true h1
  have d2:decide (0≤a2)=false:=decide_eq_false (by omega)
  rw [d2,Bool.and_false,Bool.false_and]
  clear h1 d2
  go_enter Tryz.func56,Tryz.ntmps56
  go_wp2_with (first|((with_reducible refine gate_dst (N:=1) rfl ?_);refine box_event ?hg (N:=1) ?hd (cs:=#[.int .i64 a0,.int .i64 a1,.int .i64 a2,.int .i64 a3]) (t:=45) ?hr ?_;(case hd=>rfl);(case hg=>rfl);(case hr=>first|(go_simp;done)|(go_simp;rfl));intro g hg V hbox hb;have HB:=aK hb;have P0:V.cell? ⟨g,0,none⟩=some (.int .i64 a0):=(blk_cell hbox 0).trans rfl;have P1:V.cell? ⟨g,1,none⟩=some (.int .i64 a1):=(blk_cell hbox 1).trans rfl;have P2:V.cell? ⟨g,2,none⟩=some (.int .i64 a2):=(blk_cell hbox 2).trans rfl;have P3:V.cell? ⟨g,3,none⟩=some (.int .i64 a3):=(blk_cell hbox 3).trans rfl;clear hbox hg hb))
  go_ret
  exact ⟨rfl,by repeat (first|(with_reducible first|exact HB.out|apply pw_below_drewN|apply below_drew1)|exact HB.out)⟩
 have d1:decide (a2<0)=false:=decide_eq_false h1
 by_cases h2:a2≤4
 case neg =>
  have d2:decide (4<a2)=true:=decide_eq_true (by omega)
  have d3:decide (a2≤4)=false:=decide_eq_false h2
  rw [d3,Bool.and_false]
  clear h1 h2 d3
  go_enter Tryz.func56,Tryz.ntmps56
  go_wp2_with (first|((with_reducible refine gate_dst (N:=1) rfl ?_);refine box_event ?hg (N:=1) ?hd (cs:=#[.int .i64 a0,.int .i64 a1,.int .i64 a2,.int .i64 a3]) (t:=45) ?hr ?_;(case hd=>rfl);(case hg=>rfl);(case hr=>first|(go_simp;done)|(go_simp;rfl));intro g hg V hbox hb;have HB:=aK hb;have P0:V.cell? ⟨g,0,none⟩=some (.int .i64 a0):=(blk_cell hbox 0).trans rfl;have P1:V.cell? ⟨g,1,none⟩=some (.int .i64 a1):=(blk_cell hbox 1).trans rfl;have P2:V.cell? ⟨g,2,none⟩=some (.int .i64 a2):=(blk_cell hbox 2).trans rfl;have P3:V.cell? ⟨g,3,none⟩=some (.int .i64 a3):=(blk_cell hbox 3).trans rfl;clear hbox hg hb))
  go_ret
  exact ⟨rfl,by repeat (first|(with_reducible first|exact HB.out|apply pw_below_drewN|apply below_drew1)|exact HB.out)⟩
 have d2:decide (4<a2)=false:=decide_eq_false (by omega)
 rw [decide_eq_true (show 0≤a2 by omega),decide_eq_true h2,Bool.and_true,Bool.and_true]
 clear h1 h2
 cases p
 case false =>
  rw [Bool.and_false,Bool.false_and]
  go_enter Tryz.func56,Tryz.ntmps56
  go_wp2_with (first|((with_reducible refine gate_dst (N:=1) rfl ?_);refine box_event ?hg (N:=1) ?hd (cs:=#[.int .i64 a0,.int .i64 a1,.int .i64 a2,.int .i64 a3]) (t:=45) ?hr ?_;(case hd=>rfl);(case hg=>rfl);(case hr=>first|(go_simp;done)|(go_simp;rfl));intro g hg V hbox hb;have HB:=aK hb;have P0:V.cell? ⟨g,0,none⟩=some (.int .i64 a0):=(blk_cell hbox 0).trans rfl;have P1:V.cell? ⟨g,1,none⟩=some (.int .i64 a1):=(blk_cell hbox 1).trans rfl;have P2:V.cell? ⟨g,2,none⟩=some (.int .i64 a2):=(blk_cell hbox 2).trans rfl;have P3:V.cell? ⟨g,3,none⟩=some (.int .i64 a3):=(blk_cell hbox 3).trans rfl;clear hbox hg hb)|(go_at_call 88;(with_reducible refine (C0.out _).mono ?_);rintro e w' ⟨rfl,⟨nd,rfl⟩⟩))
  go_ret
  exact ⟨rfl,by repeat (first|(with_reducible first|exact HB.out|apply pw_below_drewN|apply below_drew1)|exact HB.out)⟩
 cases q
 case false =>
  rw [Bool.and_false]
  go_enter Tryz.func56,Tryz.ntmps56
  go_wp2_with (first|((with_reducible refine gate_dst (N:=1) rfl ?_);refine box_event ?hg (N:=1) ?hd (cs:=#[.int .i64 a0,.int .i64 a1,.int .i64 a2,.int .i64 a3]) (t:=45) ?hr ?_;(case hd=>rfl);(case hg=>rfl);(case hr=>first|(go_simp;done)|(go_simp;rfl));intro g hg V hbox hb;have HB:=aK hb;have P0:V.cell? ⟨g,0,none⟩=some (.int .i64 a0):=(blk_cell hbox 0).trans rfl;have P1:V.cell? ⟨g,1,none⟩=some (.int .i64 a1):=(blk_cell hbox 1).trans rfl;have P2:V.cell? ⟨g,2,none⟩=some (.int .i64 a2):=(blk_cell hbox 2).trans rfl;have P3:V.cell? ⟨g,3,none⟩=some (.int .i64 a3):=(blk_cell hbox 3).trans rfl;clear hbox hg hb)|(go_at_call 88;(with_reducible refine (C0.out _).mono ?_);rintro e w' ⟨rfl,⟨nd,rfl⟩⟩)|(go_at_call 88;(with_reducible refine (C1.out _).mono ?_);rintro e w' ⟨rfl,⟨nd,rfl⟩⟩))
  go_ret
  exact ⟨rfl,by repeat (first|(with_reducible first|exact HB.out|apply pw_below_drewN|apply below_drew1)|exact HB.out)⟩
 rw [Bool.and_true,Bool.and_true]
 by_cases h3:a2=0
 ·have e1:(a2 == 0)=true:=beq_iff_eq.mpr h3
  have e2:(a2 != 0)=false:=bne_eq_false_iff_eq.mpr h3
  rw [if_pos h3]
  clear h3
  cases t
  all_goals
   go_enter Tryz.func56,Tryz.ntmps56
   go_wp2_with (first|((with_reducible refine gate_dst (N:=1) rfl ?_);refine box_event ?hg (N:=1) ?hd (cs:=#[.int .i64 a0,.int .i64 a1,.int .i64 a2,.int .i64 a3]) (t:=45) ?hr ?_;(case hd=>rfl);(case hg=>rfl);(case hr=>first|(go_simp;done)|(go_simp;rfl));intro g hg V hbox hb;have HB:=aK hb;have P0:V.cell? ⟨g,0,none⟩=some (.int .i64 a0):=(blk_cell hbox 0).trans rfl;have P1:V.cell? ⟨g,1,none⟩=some (.int .i64 a1):=(blk_cell hbox 1).trans rfl;have P2:V.cell? ⟨g,2,none⟩=some (.int .i64 a2):=(blk_cell hbox 2).trans rfl;have P3:V.cell? ⟨g,3,none⟩=some (.int .i64 a3):=(blk_cell hbox 3).trans rfl;clear hbox hg hb)|(go_at_call 88;(with_reducible refine (C0.out _).mono ?_);rintro e w' ⟨rfl,⟨nd,rfl⟩⟩)|(go_at_call 88;(with_reducible refine (C1.out _).mono ?_);rintro e w' ⟨rfl,⟨nd,rfl⟩⟩)|(go_at_call 66;(with_reducible refine (D3.out _).mono ?_);rintro e w' ⟨rfl,⟨nd,rfl⟩⟩))
   go_ret
   exact ⟨rfl,by repeat (first|(with_reducible first|exact HB.out|apply pw_below_drewN|apply below_drew1)|exact HB.out)⟩
 ·have e1:(a2 == 0)=false:=beq_eq_false_iff_ne.mpr h3
  have e2:(a2 != 0)=true:=bne_iff_ne.mpr h3
  rw [if_neg h3]
  clear h3
  go_enter Tryz.func56,Tryz.ntmps56
  go_wp2_with (first|((with_reducible refine gate_dst (N:=1) rfl ?_);refine box_event ?hg (N:=1) ?hd (cs:=#[.int .i64 a0,.int .i64 a1,.int .i64 a2,.int .i64 a3]) (t:=45) ?hr ?_;(case hd=>rfl);(case hg=>rfl);(case hr=>first|(go_simp;done)|(go_simp;rfl));intro g hg V hbox hb;have HB:=aK hb;have P0:V.cell? ⟨g,0,none⟩=some (.int .i64 a0):=(blk_cell hbox 0).trans rfl;have P1:V.cell? ⟨g,1,none⟩=some (.int .i64 a1):=(blk_cell hbox 1).trans rfl;have P2:V.cell? ⟨g,2,none⟩=some (.int .i64 a2):=(blk_cell hbox 2).trans rfl;have P3:V.cell? ⟨g,3,none⟩=some (.int .i64 a3):=(blk_cell hbox 3).trans rfl;clear hbox hg hb)|(go_at_call 88;(with_reducible refine (C0.out _).mono ?_);rintro e w' ⟨rfl,⟨nd,rfl⟩⟩)|(go_at_call 88;(with_reducible refine (C1.out _).mono ?_);rintro e w' ⟨rfl,⟨nd,rfl⟩⟩)|(go_at_call 88;(with_reducible refine (C3.out _).mono ?_);rintro e w' ⟨rfl,⟨nd,rfl⟩⟩))
  go_ret
  exact ⟨rfl,by repeat (first|(with_reducible first|exact HB.out|apply pw_below_drewN|apply below_drew1)|exact HB.out)⟩
theorem ruleW_is (x:S45):fleuronref27_rule.f x.f0 x.f1 x.f2 x.f3=some (okR x):=rfl
theorem okR_code {x:S45} (h:okR x=true):(0≤x.f0∧x.f0≤255)∧(0≤x.f1∧x.f1≤255):=by
 unfold okR codeB at h
 simp only [Bool.and_eq_true,decide_eq_true_eq] at h
 omega
theorem lessR_is {x y:S45} (hx:okR x=true) (hy:okR y=true):lessR x y=decide (256*x.f0+x.f1<256*y.f0+y.f1):=by
 have h1:=okR_code hx
 have h2:=okR_code hy
 unfold lessR cmpR cmpI
 by_cases a1:x.f0<y.f0
 ·rw [if_pos a1,if_neg (by decide),decide_eq_true (show 256*x.f0+x.f1<256*y.f0+y.f1 by omega)];rfl
 ·rw [if_neg a1]
  by_cases a2:y.f0<x.f0
  ·rw [if_pos a2,if_neg (by decide),decide_eq_false (show ¬ 256*x.f0+x.f1<256*y.f0+y.f1 by omega)];rfl
  ·rw [if_neg a2,if_pos rfl]
   by_cases a3:x.f1<y.f1
   ·rw [if_pos a3,decide_eq_true (show 256*x.f0+x.f1<256*y.f0+y.f1 by omega)];rfl
   ·rw [if_neg a3,decide_eq_false (show ¬ 256*x.f0+x.f1<256*y.f0+y.f1 by omega)]
    by_cases a4:y.f1<x.f1
    ·rw [if_pos a4];rfl
    ·rw [if_neg a4];rfl
def fleuronref27_pair.f (a0 a1 a2 a3:Int):Option Int:=some (wrap64 (wrap64 (256*a0)+a1))
set_option maxHeartbeats 8000000 in
theorem fleuronref27_pair.calls (a0 a1 a2 a3 : Int) (r : Int) (w : World) (h : fleuronref27_pair.f a0 a1 a2 a3 = some r) :
  Calls Tryz.prog 57 #[.agg #[.int .i64 a0,.int .i64 a1,.int .i64 a2,.int .i64 a3]] w fun e w'=>e = .returned (.int .i64 r)∧Below w.heap.size w w':=by
 have hu:=Tryz.underlying45
 obtain rfl:=Option.some.inj h
 clear h
 go_enter Tryz.func57,Tryz.ntmps57
 go_wp2_with (first|((with_reducible refine gate_dst (N:=1) rfl ?_);refine box_event ?hg (N:=1) ?hd (cs:=#[.int .i64 a0,.int .i64 a1,.int .i64 a2,.int .i64 a3]) (t:=45) ?hr ?_;(case hd=>rfl);(case hg=>rfl);(case hr=>first|(go_simp;done)|(go_simp;rfl));intro g hg V hbox hb;have HB:=aK hb;have P0:V.cell? ⟨g,0,none⟩=some (.int .i64 a0):=(blk_cell hbox 0).trans rfl;have P1:V.cell? ⟨g,1,none⟩=some (.int .i64 a1):=(blk_cell hbox 1).trans rfl;have P2:V.cell? ⟨g,2,none⟩=some (.int .i64 a2):=(blk_cell hbox 2).trans rfl;have P3:V.cell? ⟨g,3,none⟩=some (.int .i64 a3):=(blk_cell hbox 3).trans rfl;clear hbox hg hb))
 go_ret
 exact ⟨rfl,by repeat (first|(with_reducible first|exact HB.out|apply pw_below_drewN|apply below_drew1)|exact HB.out)⟩
def pairN (x:S45):Int:=256*x.f0+x.f1
theorem pairW_is {x:S45} (hx:okR x=true):fleuronref27_pair.f x.f0 x.f1 x.f2 x.f3=some (pairN x):=by
 have h1:=okR_code hx
 unfold fleuronref27_pair.f pairN
 rw [show wrap64 (256*x.f0)=256*x.f0 by unfold wrap64;omega,show wrap64 (256*x.f0+x.f1)=256*x.f0+x.f1 by unfold wrap64;omega]
theorem chainB_at {α : Type} (r : α → α → Bool) : ∀ l : List α, chainB r l = true ↔ ∀ j (h : j + 1 < l.length), r l[j] l[j + 1] = true
 | []=>by simp [chainB]
 | [x]=>by simp [chainB]
 | x::y::l=>by
  rw [chainB,Bool.and_eq_true,chainB_at r (y::l)]
  constructor
  ·rintro ⟨h1,h2⟩ j hj
   cases j with
   | zero=>exact h1
   | succ j=>exact h2 j (by simpa using hj)
  ·intro h
   exact ⟨h 0 (by simp),fun j hj=>h (j+1) (by simpa using hj)⟩
def okTo (rs:List S45) (i:Nat):Prop:=∀ j (h:j<rs.length),j<i→okR rs[j]=true∧(0<j→pairN rs[j-1]<pairN rs[j])
theorem okTo_next {rs:List S45} {i:Nat} (h:okTo rs i) (hi:i<rs.length) (h1:okR rs[i]=true) (h2:0<i→pairN rs[i-1]<pairN rs[i]):okTo rs (i+1):=fun j hj hji=>by
 rcases Nat.lt_or_ge j i with h3|h3
 ·exact h j hj h3
 ·obtain rfl:j=i:=by omega
  exact ⟨h1,h2⟩
theorem okTo_end {rs:List S45} (h:okTo rs rs.length):validR rs=decide (rs.length≤500):=by
 have h1:rs.all okR=true:=List.all_eq_true.mpr fun x hx=>by
  obtain ⟨j,hj,rfl⟩:=List.getElem_of_mem hx
  exact (h j hj hj).1
 have h2:chainB lessR rs=true:=(chainB_at lessR rs).mpr fun j hj=>by
  rw [lessR_is (h j (by omega) (by omega)).1 (h (j+1) hj hj).1]
  exact decide_eq_true ((h (j+1) hj hj).2 (by omega))
 rw [validR,h1,h2]
 simp
theorem okTo_not {rs:List S45} {i:Nat} (hi:i<rs.length) (hn : ¬ (okR rs[i]=true∧(0<i→pairN rs[i-1]<pairN rs[i]))):validR rs=false:=by
 cases h:validR rs with
 | false=>rfl
 | true =>
  exfalso
  unfold validR at h
  simp only [Bool.and_eq_true] at h
  have ho : ∀ j (hj:j<rs.length),okR rs[j]=true:=fun j hj=>List.all_eq_true.mp h.2.1 _ (List.getElem_mem hj)
  refine hn ⟨ho i hi,fun h0=>?_⟩
  obtain ⟨j,rfl⟩ : ∃ m,i=m+1:=⟨i-1,by omega⟩
  have:=(chainB_at lessR rs).mp h.2.2 j hi
  rw [lessR_is (ho j (by omega)) (ho (j+1) hi)] at this
  exact of_decide_eq_true this
def fleuronref27_Rules.f (k:Nat) (l0:List S45):Option Bool:=if l0.length≤1000000 then some (validR l0) else none
set_option maxHeartbeats 8000000 in
set_option maxRecDepth 100000 in
theorem fleuronref27_Rules.calls (k : Nat) (A0 : Option Addr) (c0 : Nat) (l0 : List S45) (r : Bool) (w : World) (hr0 : Kd.C k45 w A0 l0.length l0) (hc0 : l0.length ≤ c0) (h : fleuronref27_Rules.f k l0 = some r) :
  Calls Tryz.prog 40 #[.slice A0 l0.length c0] w fun e w'=>e = .returned (.bool r)∧Below w.heap.size w w':=by
 have hu:=Tryz.underlying45
 obtain ⟨hl,hq⟩:l0.length≤1000000∧validR l0=r:=by
  unfold fleuronref27_Rules.f at h
  by_cases h1:l0.length≤1000000
  ·rw [if_pos h1] at h;exact ⟨h1,Option.some.inj h⟩
  ·rw [if_neg h1] at h;cases h
 have HL:=aK hl
 have HQ:=aK hq
 have HR:=aK hr0
 clear h hl hq hr0 hc0
 go_enter Tryz.func40,Tryz.ntmps40
 go_wp2
 go_loopg [7] l0.length (fun gg s7 wr=>∃ i:Nat,i≤l0.length∧l0.length-i≤gg∧s7 = .int .i64 i∧Aside0 (okTo l0 i)∧Aside0 (Below w.heap.size w wr))
 case atStart=>exact ⟨0,by omega,by omega,rfl,⟨fun j h hj=>absurd hj (by omega)⟩,⟨Below.refl _ _⟩⟩
 case round =>
  obtain ⟨i,hi,hg,rfl,HO,HB⟩:=hrel
  by_cases hlt:i<l0.length
  ·have hlti:(i:Int)<(l0.length:Int):=by omega
   have hi0:(0:Int)≤(i:Int):=by omega
   obtain ⟨ad,e1,x0,x1,x2,x3⟩:=at_T45 HR.out (i:Int) (by omega) (by omega)
   simp only [Int.toNat_natCast] at x0 x1 x2 x3
   replace x0:=(HB.out.cell (World.block_lt_of_cell? w _ x0)).trans x0
   replace x1:=(HB.out.cell (World.block_lt_of_cell? w _ x1)).trans x1
   replace x2:=(HB.out.cell (World.block_lt_of_cell? w _ x2)).trans x2
   replace x3:=(HB.out.cell (World.block_lt_of_cell? w _ x3)).trans x3
   have hrd:rd_T45 l0 (i:Int)=l0[i]:=by simp [rd_T45,List.getD_eq_getElem?_getD,hlt]
   have HSTEP:=aK (show wrap64 ((i:Int)+1)=((i+1:Nat):Int) by have:=HL.out;unfold wrap64;omega)
   have HNX:=aK (fun h1 h2=>okTo_next HO.out hlt h1 h2)
   have HNO:=aK (fun h=>HQ.out.symm.trans (okTo_not (rs:=l0) hlt h))
   have HMEM:=aK (fun (h0:0<i)=>(show rd_T45 l0 ((i-1:Nat):Int)=l0[i-1] by simp [rd_T45,List.getD_eq_getElem?_getD,show i-1<l0.length by omega]))
   rw [← hrd] at HNX HNO
   generalize rd_T45 l0 (i:Int)=x at *
   have HR4:=aK (fun V=>fleuronref27_rule.calls x.f0 x.f1 x.f2 x.f3 (okR x) V (ruleW_is x))
   subst e1
   have B1:=aK (below_drew1 (below_alloc HB.out (.cells #[.int .i64 x.f0,.int .i64 x.f1,.int .i64 x.f2,.int .i64 x.f3] 45)))
   have X1:=blk_drew (blk_new wr (.cells #[.int .i64 x.f0,.int .i64 x.f1,.int .i64 x.f2,.int .i64 x.f3] 45))
   have P0:=aK ((blk_cell X1 0).trans rfl)
   have P1:=aK ((blk_cell X1 1).trans rfl)
   have P2:=aK ((blk_cell X1 2).trans rfl)
   have P3:=aK ((blk_cell X1 3).trans rfl)
   clear hrd X1
   go_upto_region 4 with (fail)
   generalize wr.heap.size=b4 at *
   generalize wr.alloc (.cells #[.int .i64 x.f0,.int .i64 x.f1,.int .i64 x.f2,.int .i64 x.f3] 45)=V4 at *
   clear x0 x1 x2 x3
   cases hok:okR x with
   | false =>
    have HF:Aside0 (r=false):=⟨HNO.out (fun h=>by rw [hok] at h;cases h.1)⟩
    rw [hok] at HR4
    clear hok HNX HNO HMEM
    refine start_ (n:=18) (S:=fun w'=>w'.cell? ⟨b4,0,none⟩=some (.int .i64 x.f0)∧w'.cell? ⟨b4,1,none⟩=some (.int .i64 x.f1)∧w'.cell? ⟨b4,2,none⟩=some (.int .i64 x.f2)∧w'.cell? ⟨b4,3,none⟩=some (.int .i64 x.f3)) (ds:=[]) #[false,false,false,false,false,false,false,false,false,false,false,false,false,false,false,false,false,false] (by kernel_rfl) rfl rfl ⟨P0.out,P1.out,P2.out,P3.out⟩ (fun hHeld=>?_)
    refine tk 0 (some 12) ?_ rfl rfl (by kernel_rfl) (fun _ _ _ h=>h) (.inl ⟨by rfl,?_⟩) hHeld ?_ ?_ ?_;rotate_left;rintro w' ⟨s0,s1,s2,s3⟩;go_simp;with_reducible rfl;rotate_left;simp only [nS];rfl
    refine one_ (i:=1) (N:=some 13) #[true,true,false,false,false,false,false,false,false,false,false,false,false,false,false,false,false,false] rfl rfl (by kernel_rfl) (by decide) (fun K hK=>?_)
    refine goes_ Tryz.func56 (by kernel_rfl) rfl #[.agg #[.int .i64 x.f0,.int .i64 x.f1,.int .i64 x.f2,.int .i64 x.f3]] (by rfl) rfl rfl (by simp only [List.map_toArray,List.map_cons,List.map_nil];rfl) ?_
    refine (HR4.out _).mono ?_
    rintro e Wa ⟨rfl,hb⟩
    have Ba:=aK (below_step B1.out hb)
    refine ⟨_,rfl,?_⟩
    refine hK.out _ _ ⟨(hb.cell (World.block_lt_of_cell? _ _ hHeld.1)).trans hHeld.1,(hb.cell (World.block_lt_of_cell? _ _ hHeld.2.1)).trans hHeld.2.1,(hb.cell (World.block_lt_of_cell? _ _ hHeld.2.2.1)).trans hHeld.2.2.1,(hb.cell (World.block_lt_of_cell? _ _ hHeld.2.2.2)).trans hHeld.2.2.2⟩ (fun hHeld=>?_)
    clear hK K
    refine norm_ (a':=?_) ?_ ?_;rotate_left;show Act.put _ (some 13) _=_;simp only [nS];rfl
    refine pu 2 (some 14) ?_ rfl rfl (by kernel_rfl) (fun _ _ _ h=>h) (.inl ⟨by rfl,?_⟩) ?_ ?_ ?_;rotate_left;intro w';go_simp;with_reducible rfl;rotate_left;simp only [nS];rfl
    refine pu 3 (some 15) ?_ rfl rfl (by kernel_rfl) (fun _ _ _ h=>h) (.inl ⟨by rfl,?_⟩) ?_ ?_ ?_;rotate_left;intro w';go_simp;with_reducible rfl;rotate_left;simp only [nS];rfl
    refine pu 4 (some 16) undef rfl rfl (by kernel_rfl) (fun _ _ _ h=>h) (.inr ⟨by rfl,rfl⟩) ?_ ?_ ?_;rotate_left;simp only [nS];rfl
    refine pu 5 (some 17) undef rfl rfl (by kernel_rfl) (fun _ _ _ h=>h) (.inr ⟨by rfl,rfl⟩) ?_ ?_ ?_;rotate_left;simp only [nS];rfl
    refine pu 6 (some 18) undef rfl rfl (by kernel_rfl) (fun _ _ _ h=>h) (.inr ⟨by rfl,rfl⟩) ?_ ?_ ?_;rotate_left;simp only [nS];rfl
    refine pu 7 (some 19) undef rfl rfl (by kernel_rfl) (fun _ _ _ h=>h) (.inr ⟨by rfl,rfl⟩) ?_ ?_ ?_;rotate_left;simp only [nS];rfl
    refine pu 8 (some 20) undef rfl rfl (by kernel_rfl) (fun _ _ _ h=>h) (.inr ⟨by rfl,rfl⟩) ?_ ?_ ?_;rotate_left;simp only [nS];rfl
    refine pu 9 (some 21) undef rfl rfl (by kernel_rfl) (fun _ _ _ h=>h) (.inr ⟨by rfl,rfl⟩) ?_ ?_ ?_;rotate_left;simp only [nS];rfl
    refine pu 10 (some 22) undef rfl rfl (by kernel_rfl) (fun _ _ _ h=>h) (.inr ⟨by rfl,rfl⟩) ?_ ?_ ?_;rotate_left;simp only [nS];rfl
    refine pu 11 (some 23) undef rfl rfl (by kernel_rfl) (fun _ _ _ h=>h) (.inr ⟨by rfl,rfl⟩) ?_ ?_ ?_;rotate_left;simp only [nS];rfl
    refine pu 12 (some 24) undef rfl rfl (by kernel_rfl) (fun _ _ _ h=>h) (.inr ⟨by rfl,rfl⟩) ?_ ?_ ?_;rotate_left;simp only [nS];rfl
    refine pu 13 (some 25) undef rfl rfl (by kernel_rfl) (fun _ _ _ h=>h) (.inr ⟨by rfl,rfl⟩) ?_ ?_ ?_;rotate_left;simp only [nS];rfl
    refine pu 14 (some 26) undef rfl rfl (by kernel_rfl) (fun _ _ _ h=>h) (.inr ⟨by rfl,rfl⟩) ?_ ?_ ?_;rotate_left;simp only [nS];rfl
    refine pu 15 (some 27) undef rfl rfl (by kernel_rfl) (fun _ _ _ h=>h) (.inr ⟨by rfl,rfl⟩) ?_ ?_ ?_;rotate_left;simp only [nS];rfl
    refine pu 16 (some 28) undef rfl rfl (by kernel_rfl) (fun _ _ _ h=>h) (.inr ⟨by rfl,rfl⟩) ?_ ?_ ?_;rotate_left;simp only [nS];rfl
    refine pu 17 (some 29) ?_ rfl rfl (by kernel_rfl) (fun _ _ _ h=>h) (.inl ⟨by rfl,?_⟩) ?_ ?_ ?_;rotate_left;intro w';go_simp;with_reducible rfl;rotate_left;simp only [nS];rfl
    refine done_ (by kernel_rfl) ?_
    go_wp2
    go_ret
    exact ⟨by rw [HF.out];rfl,Ba.out⟩
   | true =>
   rw [hok] at HR4
   rcases Nat.eq_zero_or_pos i with hz|hz
   ·subst hz
    have HN1:=aK (HNX.out hok (fun h=>absurd h (by omega)))
    have hgt:decide ((0:Int)<((0:Nat):Int))=false:=rfl
    have hgt2 : ¬ (0:Int)<((0:Nat):Int):=by omega
    clear hok HNX HNO HMEM
    refine start_ (n:=18) (S:=fun w'=>w'.cell? ⟨b4,0,none⟩=some (.int .i64 x.f0)∧w'.cell? ⟨b4,1,none⟩=some (.int .i64 x.f1)∧w'.cell? ⟨b4,2,none⟩=some (.int .i64 x.f2)∧w'.cell? ⟨b4,3,none⟩=some (.int .i64 x.f3)) (ds:=[]) #[false,false,false,false,false,false,false,false,false,false,false,false,false,false,false,false,false,false] (by kernel_rfl) rfl rfl ⟨P0.out,P1.out,P2.out,P3.out⟩ (fun hHeld=>?_)
    refine tk 0 (some 12) ?_ rfl rfl (by kernel_rfl) (fun _ _ _ h=>h) (.inl ⟨by rfl,?_⟩) hHeld ?_ ?_ ?_;rotate_left;rintro w' ⟨s0,s1,s2,s3⟩;go_simp;with_reducible rfl;rotate_left;simp only [nS];rfl
    refine one_ (i:=1) (N:=some 13) #[true,true,false,false,false,false,false,false,false,false,false,false,false,false,false,false,false,false] rfl rfl (by kernel_rfl) (by decide) (fun K hK=>?_)
    refine goes_ Tryz.func56 (by kernel_rfl) rfl #[.agg #[.int .i64 x.f0,.int .i64 x.f1,.int .i64 x.f2,.int .i64 x.f3]] (by rfl) rfl rfl (by simp only [List.map_toArray,List.map_cons,List.map_nil];rfl) ?_
    refine (HR4.out _).mono ?_
    rintro e Wa ⟨rfl,hb⟩
    have Ba:=aK (below_step B1.out hb)
    refine ⟨_,rfl,?_⟩
    refine hK.out _ _ ⟨(hb.cell (World.block_lt_of_cell? _ _ hHeld.1)).trans hHeld.1,(hb.cell (World.block_lt_of_cell? _ _ hHeld.2.1)).trans hHeld.2.1,(hb.cell (World.block_lt_of_cell? _ _ hHeld.2.2.1)).trans hHeld.2.2.1,(hb.cell (World.block_lt_of_cell? _ _ hHeld.2.2.2)).trans hHeld.2.2.2⟩ (fun hHeld=>?_)
    clear hK K
    refine norm_ (a':=?_) ?_ ?_;rotate_left;show Act.put _ (some 13) _=_;simp only [nS];rfl
    refine pu 2 (some 14) ?_ rfl rfl (by kernel_rfl) (fun _ _ _ h=>h) (.inl ⟨by rfl,?_⟩) ?_ ?_ ?_;rotate_left;intro w';go_simp;with_reducible rfl;rotate_left;simp only [nS];rfl
    refine pu 3 (some 15) ?_ rfl rfl (by kernel_rfl) (fun _ _ _ h=>h) (.inl ⟨by rfl,?_⟩) ?_ ?_ ?_;rotate_left;intro w';go_simp;with_reducible rfl;rotate_left;simp only [nS];rfl
    refine pu 4 (some 16) ?_ rfl rfl (by kernel_rfl) (fun _ _ _ h=>h) (.inl ⟨by rfl,?_⟩) ?_ ?_ ?_;rotate_left;intro w';go_simp;with_reducible rfl;rotate_left;simp only [nS];rfl
    refine pu 5 (some 17) ?_ rfl rfl (by kernel_rfl) (fun _ _ _ h=>h) (.inl ⟨by rfl,?_⟩) ?_ ?_ ?_;rotate_left;intro w';go_simp;with_reducible rfl;rotate_left;simp only [nS];rfl
    refine pu 6 (some 18) ?_ rfl rfl (by kernel_rfl) (fun _ _ _ h=>h) (.inl ⟨by rfl,?_⟩) ?_ ?_ ?_;rotate_left;intro w';go_simp;with_reducible rfl;rotate_left;simp only [nS];rfl
    refine pu 7 (some 19) undef rfl rfl (by kernel_rfl) (fun _ _ _ h=>h) (.inr ⟨by rfl,rfl⟩) ?_ ?_ ?_;rotate_left;simp only [nS];rfl
    refine pu 8 (some 20) undef rfl rfl (by kernel_rfl) (fun _ _ _ h=>h) (.inr ⟨by rfl,rfl⟩) ?_ ?_ ?_;rotate_left;simp only [nS];rfl
    refine pu 9 (some 21) undef rfl rfl (by kernel_rfl) (fun _ _ _ h=>h) (.inr ⟨by rfl,rfl⟩) ?_ ?_ ?_;rotate_left;simp only [nS];rfl
    refine pu 10 (some 22) undef rfl rfl (by kernel_rfl) (fun _ _ _ h=>h) (.inr ⟨by rfl,rfl⟩) ?_ ?_ ?_;rotate_left;simp only [nS];rfl
    refine pu 11 (some 23) undef rfl rfl (by kernel_rfl) (fun _ _ _ h=>h) (.inr ⟨by rfl,rfl⟩) ?_ ?_ ?_;rotate_left;simp only [nS];rfl
    refine pu 12 (some 24) undef rfl rfl (by kernel_rfl) (fun _ _ _ h=>h) (.inr ⟨by rfl,rfl⟩) ?_ ?_ ?_;rotate_left;simp only [nS];rfl
    refine pu 13 (some 25) undef rfl rfl (by kernel_rfl) (fun _ _ _ h=>h) (.inr ⟨by rfl,rfl⟩) ?_ ?_ ?_;rotate_left;simp only [nS];rfl
    refine pu 14 (some 26) undef rfl rfl (by kernel_rfl) (fun _ _ _ h=>h) (.inr ⟨by rfl,rfl⟩) ?_ ?_ ?_;rotate_left;simp only [nS];rfl
    refine pu 15 (some 27) undef rfl rfl (by kernel_rfl) (fun _ _ _ h=>h) (.inr ⟨by rfl,rfl⟩) ?_ ?_ ?_;rotate_left;simp only [nS];rfl
    refine pu 16 (some 28) ?_ rfl rfl (by kernel_rfl) (fun _ _ _ h=>h) (.inl ⟨by rfl,?_⟩) ?_ ?_ ?_;rotate_left;intro w';go_simp;with_reducible rfl;rotate_left;simp only [nS];rfl
    refine pu 17 (some 29) ?_ rfl rfl (by kernel_rfl) (fun _ _ _ h=>h) (.inl ⟨by rfl,?_⟩) ?_ ?_ ?_;rotate_left;intro w';go_simp;with_reducible rfl;rotate_left;simp only [nS];rfl
    refine done_ (by kernel_rfl) ?_
    go_wp2
    go_roundg (l0.length-(0+1))
    case measure=>omega
    case rel=>exact ⟨0+1,by omega,by omega,by first|exact congrArg (Value.int .i64) HSTEP.out|go_num,HN1,Ba⟩
   ·obtain ⟨z,hze⟩ : ∃ z:Int,((i-1:Nat):Int)=z:=⟨_,rfl⟩
    have hw:wrap64 ((i:Int)-1)=z:=by have:=HL.out;unfold wrap64;omega
    have q1:0≤z:=by omega
    have q2:z<(l0.length:Int):=by omega
    obtain ⟨ad2,e2,y0,y1,y2,y3⟩:=at_T45 HR.out z q1 q2
    injection e2 with e2
    subst e2
    have hm:=HMEM.out hz
    rw [hze] at hm
    rw [← hm] at HNX HNO
    have hgt:decide ((0:Int)<(i:Int))=true:=decide_eq_true (by omega)
    have hgt2:(0:Int)<(i:Int):=by omega
    have hgt3:decide (0<i)=true:=decide_eq_true hz
    have hoky:=(HO.out (i-1) (by omega) (by omega)).1
    rw [← hm] at hoky
    generalize rd_T45 l0 z=y at *
    have hpx:=fun V=>fleuronref27_pair.calls x.f0 x.f1 x.f2 x.f3 _ V (pairW_is hok)
    have hpy:=fun V=>fleuronref27_pair.calls y.f0 y.f1 y.f2 y.f3 _ V (pairW_is hoky)
    have HN1:=aK (HNX.out hok)
    have HN2:Aside0 (¬ pairN y<pairN x→r=false):=⟨fun h=>HNO.out (fun hh=>h (hh.2 hz))⟩
    generalize pairN x=px at *
    generalize pairN y=py at *
    have HPX:=aK hpx
    have HPY:=aK hpy
    have P4:=aK ((B1.out.cell (World.block_lt_of_cell? w _ y0)).trans y0)
    have P5:=aK ((B1.out.cell (World.block_lt_of_cell? w _ y1)).trans y1)
    have P6:=aK ((B1.out.cell (World.block_lt_of_cell? w _ y2)).trans y2)
    have P7:=aK ((B1.out.cell (World.block_lt_of_cell? w _ y3)).trans y3)
    have hsplit:(px≤py∧decide (px≤py)=true)∨(¬ px≤py∧decide (px≤py)=false):=by
     by_cases h:px≤py
     ·exact .inl ⟨h,decide_eq_true h⟩
     ·exact .inr ⟨h,decide_eq_false h⟩
    have HZ:=aK hz
    clear hok hoky hpx hpy HNX HNO HMEM hm hze y0 y1 y2 y3 HO hz
    rcases hsplit with ⟨g1,g2⟩|⟨g1,g2⟩
    all_goals
     refine start_ (n:=18) (S:=fun w'=>w'.cell? ⟨b4,0,none⟩=some (.int .i64 x.f0)∧w'.cell? ⟨b4,1,none⟩=some (.int .i64 x.f1)∧w'.cell? ⟨b4,2,none⟩=some (.int .i64 x.f2)∧w'.cell? ⟨b4,3,none⟩=some (.int .i64 x.f3)∧w'.cell? (ad.add (z.toNat*4))=some (.int .i64 y.f0)∧w'.cell? ⟨(ad.add (z.toNat*4)).block,(ad.add (z.toNat*4)).off+1,none⟩=some (.int .i64 y.f1)∧w'.cell? ⟨(ad.add (z.toNat*4)).block,(ad.add (z.toNat*4)).off+2,none⟩=some (.int .i64 y.f2)∧w'.cell? ⟨(ad.add (z.toNat*4)).block,(ad.add (z.toNat*4)).off+3,none⟩=some (.int .i64 y.f3)) (ds:=[]) #[false,false,false,false,false,false,false,false,false,false,false,false,false,false,false,false,false,false] (by kernel_rfl) rfl rfl ⟨P0.out,P1.out,P2.out,P3.out,P4.out,P5.out,P6.out,P7.out⟩ (fun hHeld=>?_)
     refine tk 0 (some 12) ?_ rfl rfl (by kernel_rfl) (fun _ _ _ h=>h) (.inl ⟨by rfl,?_⟩) hHeld ?_ ?_ ?_;rotate_left;rintro w' ⟨s0,s1,s2,s3,s4,s5,s6,s7⟩;go_simp;with_reducible rfl;rotate_left;simp only [nS];rfl
     refine one_ (i:=1) (N:=some 13) #[true,true,false,false,false,false,false,false,false,false,false,false,false,false,false,false,false,false] rfl rfl (by kernel_rfl) (by decide) (fun K hK=>?_)
     refine goes_ Tryz.func56 (by kernel_rfl) rfl #[.agg #[.int .i64 x.f0,.int .i64 x.f1,.int .i64 x.f2,.int .i64 x.f3]] (by rfl) rfl rfl (by simp only [List.map_toArray,List.map_cons,List.map_nil];rfl) ?_
     refine (HR4.out _).mono ?_
     rintro e Wa ⟨rfl,hb⟩
     have Ba:=aK (below_step B1.out hb)
     refine ⟨_,rfl,?_⟩
     refine hK.out _ _ ⟨(hb.cell (World.block_lt_of_cell? _ _ hHeld.1)).trans hHeld.1,(hb.cell (World.block_lt_of_cell? _ _ hHeld.2.1)).trans hHeld.2.1,(hb.cell (World.block_lt_of_cell? _ _ hHeld.2.2.1)).trans hHeld.2.2.1,(hb.cell (World.block_lt_of_cell? _ _ hHeld.2.2.2.1)).trans hHeld.2.2.2.1,(hb.cell (World.block_lt_of_cell? _ _ hHeld.2.2.2.2.1)).trans hHeld.2.2.2.2.1,(hb.cell (World.block_lt_of_cell? _ _ hHeld.2.2.2.2.2.1)).trans hHeld.2.2.2.2.2.1,(hb.cell (World.block_lt_of_cell? _ _ hHeld.2.2.2.2.2.2.1)).trans hHeld.2.2.2.2.2.2.1,(hb.cell (World.block_lt_of_cell? _ _ hHeld.2.2.2.2.2.2.2)).trans hHeld.2.2.2.2.2.2.2⟩ (fun hHeld=>?_)
     clear hK K
     refine norm_ (a':=?_) ?_ ?_;rotate_left;show Act.put _ (some 13) _=_;simp only [nS];rfl
     refine pu 2 (some 14) ?_ rfl rfl (by kernel_rfl) (fun _ _ _ h=>h) (.inl ⟨by rfl,?_⟩) ?_ ?_ ?_;rotate_left;intro w';go_simp;with_reducible rfl;rotate_left;simp only [nS];rfl
     refine pu 3 (some 15) ?_ rfl rfl (by kernel_rfl) (fun _ _ _ h=>h) (.inl ⟨by rfl,?_⟩) ?_ ?_ ?_;rotate_left;intro w';go_simp;with_reducible rfl;rotate_left;simp only [nS];rfl
     refine pu 4 (some 16) ?_ rfl rfl (by kernel_rfl) (fun _ _ _ h=>h) (.inl ⟨by rfl,?_⟩) ?_ ?_ ?_;rotate_left;intro w';go_simp;with_reducible rfl;rotate_left;simp only [nS];rfl
     refine pu 5 (some 17) ?_ rfl rfl (by kernel_rfl) (fun _ _ _ h=>h) (.inl ⟨by rfl,?_⟩) ?_ ?_ ?_;rotate_left;intro w';go_simp;with_reducible rfl;rotate_left;simp only [nS];rfl
     refine pu 6 (some 18) ?_ rfl rfl (by kernel_rfl) (fun _ _ _ h=>h) (.inl ⟨by rfl,?_⟩) ?_ ?_ ?_;rotate_left;intro w';go_simp;with_reducible rfl;rotate_left;simp only [nS];rfl
     refine pu 7 (some 19) ?_ rfl rfl (by kernel_rfl) (fun _ _ _ h=>h) (.inl ⟨by rfl,?_⟩) ?_ ?_ ?_;rotate_left;intro w';go_simp;with_reducible rfl;rotate_left;simp only [nS];rfl
     refine pu 8 (some 20) ?_ rfl rfl (by kernel_rfl) (fun _ _ _ h=>h) (.inl ⟨by rfl,?_⟩) ?_ ?_ ?_;rotate_left;intro w';go_simp;with_reducible rfl;rotate_left;simp only [nS];rfl
     refine pu 9 (some 21) ?_ rfl rfl (by kernel_rfl) (fun _ _ _ h=>h) (.inl ⟨by rfl,?_⟩) ?_ ?_ ?_;rotate_left;intro w';go_simp;with_reducible rfl;rotate_left;simp only [nS];rfl
     refine pu 10 (some 22) ?_ rfl rfl (by kernel_rfl) (fun _ _ _ h=>h) (.inl ⟨by rfl,?_⟩) ?_ ?_ ?_;rotate_left;intro w';go_simp;with_reducible rfl;rotate_left;simp only [nS];rfl
     refine tk 11 (some 23) ?_ rfl rfl (by kernel_rfl) (fun _ _ _ h=>h) (.inl ⟨by rfl,?_⟩) hHeld ?_ ?_ ?_;rotate_left;rintro w' ⟨s0,s1,s2,s3,s4,s5,s6,s7⟩;go_simp;with_reducible rfl;rotate_left;simp only [nS];rfl
     refine tk 13 (some 25) ?_ rfl rfl (by kernel_rfl) (fun _ _ _ h=>h) (.inl ⟨by rfl,?_⟩) hHeld ?_ ?_ ?_;rotate_left;rintro w' ⟨s0,s1,s2,s3,s4,s5,s6,s7⟩;go_simp;with_reducible rfl;rotate_left;simp only [nS];rfl
     refine one_ (i:=12) (N:=some 24) #[true,true,true,true,true,true,true,true,true,true,true,true,true,true,false,false,false,false] rfl rfl (by kernel_rfl) (by decide) (fun K hK=>?_)
     refine goes_ Tryz.func57 (by kernel_rfl) rfl #[.agg #[.int .i64 y.f0,.int .i64 y.f1,.int .i64 y.f2,.int .i64 y.f3]] (by rfl) rfl rfl (by simp only [List.map_toArray,List.map_cons,List.map_nil];rfl) ?_
     refine (HPY.out _).mono ?_
     rintro e Wb ⟨rfl,hb⟩
     have Bb:=aK (below_step Ba.out hb)
     refine ⟨_,rfl,?_⟩
     refine hK.out _ _ ⟨(hb.cell (World.block_lt_of_cell? _ _ hHeld.1)).trans hHeld.1,(hb.cell (World.block_lt_of_cell? _ _ hHeld.2.1)).trans hHeld.2.1,(hb.cell (World.block_lt_of_cell? _ _ hHeld.2.2.1)).trans hHeld.2.2.1,(hb.cell (World.block_lt_of_cell? _ _ hHeld.2.2.2.1)).trans hHeld.2.2.2.1,(hb.cell (World.block_lt_of_cell? _ _ hHeld.2.2.2.2.1)).trans hHeld.2.2.2.2.1,(hb.cell (World.block_lt_of_cell? _ _ hHeld.2.2.2.2.2.1)).trans hHeld.2.2.2.2.2.1,(hb.cell (World.block_lt_of_cell? _ _ hHeld.2.2.2.2.2.2.1)).trans hHeld.2.2.2.2.2.2.1,(hb.cell (World.block_lt_of_cell? _ _ hHeld.2.2.2.2.2.2.2)).trans hHeld.2.2.2.2.2.2.2⟩ (fun hHeld=>?_)
     clear hK K
     refine norm_ (a':=?_) ?_ ?_;rotate_left;show Act.put _ (some 24) _=_;simp only [nS];rfl
     refine one_ (i:=14) (N:=some 26) #[true,true,true,true,true,true,true,true,true,true,true,true,true,true,true,false,false,false] rfl rfl (by kernel_rfl) (by decide) (fun K hK=>?_)
     refine goes_ Tryz.func57 (by kernel_rfl) rfl #[.agg #[.int .i64 x.f0,.int .i64 x.f1,.int .i64 x.f2,.int .i64 x.f3]] (by rfl) rfl rfl (by simp only [List.map_toArray,List.map_cons,List.map_nil];rfl) ?_
     refine (HPX.out _).mono ?_
     rintro e Wc ⟨rfl,hb⟩
     have Bc:=aK (below_step Bb.out hb)
     refine ⟨_,rfl,?_⟩
     refine hK.out _ _ ⟨(hb.cell (World.block_lt_of_cell? _ _ hHeld.1)).trans hHeld.1,(hb.cell (World.block_lt_of_cell? _ _ hHeld.2.1)).trans hHeld.2.1,(hb.cell (World.block_lt_of_cell? _ _ hHeld.2.2.1)).trans hHeld.2.2.1,(hb.cell (World.block_lt_of_cell? _ _ hHeld.2.2.2.1)).trans hHeld.2.2.2.1,(hb.cell (World.block_lt_of_cell? _ _ hHeld.2.2.2.2.1)).trans hHeld.2.2.2.2.1,(hb.cell (World.block_lt_of_cell? _ _ hHeld.2.2.2.2.2.1)).trans hHeld.2.2.2.2.2.1,(hb.cell (World.block_lt_of_cell? _ _ hHeld.2.2.2.2.2.2.1)).trans hHeld.2.2.2.2.2.2.1,(hb.cell (World.block_lt_of_cell? _ _ hHeld.2.2.2.2.2.2.2)).trans hHeld.2.2.2.2.2.2.2⟩ (fun hHeld=>?_)
     clear hK K
     refine norm_ (a':=?_) ?_ ?_;rotate_left;show Act.put _ (some 26) _=_;simp only [nS];rfl
     refine pu 15 (some 27) ?_ rfl rfl (by kernel_rfl) (fun _ _ _ h=>h) (.inl ⟨by rfl,?_⟩) ?_ ?_ ?_;rotate_left;intro w';go_simp;with_reducible rfl;rotate_left;simp only [nS];rfl
     refine pu 16 (some 28) ?_ rfl rfl (by kernel_rfl) (fun _ _ _ h=>h) (.inl ⟨by rfl,?_⟩) ?_ ?_ ?_;rotate_left;intro w';go_simp;with_reducible rfl;rotate_left;simp only [nS];rfl
     refine pu 17 (some 29) ?_ rfl rfl (by kernel_rfl) (fun _ _ _ h=>h) (.inl ⟨by rfl,?_⟩) ?_ ?_ ?_;rotate_left;intro w';go_simp;with_reducible rfl;rotate_left;simp only [nS];rfl
     refine done_ (by kernel_rfl) ?_
    ·have HF:Aside0 (r=false):=⟨HN2.out (fun h=>by omega)⟩
     go_wp2
     go_ret
     exact ⟨by rw [HF.out];rfl,Bc.out⟩
    ·have HN3:=aK (HN1.out (fun _=>by omega))
     go_wp2
     go_roundg (l0.length-(i+1))
     case measure=>omega
     case rel=>exact ⟨i+1,by omega,by omega,by first|exact congrArg (Value.int .i64) HSTEP.out|go_num,HN3,Bc⟩
  ·have hlti : ¬ (i:Int)<(l0.length:Int):=by omega
   obtain rfl:i=l0.length:=by omega
   have HE:Aside0 (r=decide ((l0.length:Int)≤500)):=⟨by rw [← HQ.out,okTo_end HO.out];exact decide_eq_decide.mpr (by omega)⟩
   go_wp2
   go_ret
   exact ⟨by rw [HE.out];rfl,HB.out⟩
end Go.Proofs.YtoemkemmiikhlaaGreat.PF4

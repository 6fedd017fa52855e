import Derived.Test.YtckjlckhjcbddaaPH3x0
import Derived.Test.YtckjlckhjcbddaaPH3x1
import Derived.Test.YtckjlckhjcbddaaPH3x3
import Derived.Test.YtckjlckhjcbddaaPH3x4
import Derived.Test.YtckjlckhjcbddaaPH3x5
import Derived.Test.YtckjlckhjcbddaaPH3x7
set_option maxRecDepth 100000
namespace Go.Proofs.Ytckjlckhjcbddaa.PH3
open Go.RowKit Go.Proofs.YtckjlckhjcbddaaW.PrintWords Go.Proofs.YtckjlckhjcbddaaW.PrintLast Go.Proofs.YtckjlckhjcbddaaW.PrintMore
attribute [local go_sem] max2_int min2_int max_two min_two max_three min_three max_four min_four
set_option linter.unusedVariables false
set_option linter.unusedSimpArgs false
attribute [local go_sem high] eqA31
def wind_half.f (a0_0:Int) (a0_1:Int) (a1_0:Int) (a1_1:Int):Option (Int):=if a1_1>a0_1 then (some 0) else (if a1_1=a0_1 then (if a1_0>a0_0 then (some 0) else (some 1)) else (some 1))
set_option maxHeartbeats 8000000 in
theorem wind_half.calls (a0_0 : Int) (a0_1 : Int) (a1_0 : Int) (a1_1 : Int) (r : Int) (w : World) (h : wind_half.f a0_0 a0_1 a1_0 a1_1 = some r) :
  Calls Try.prog 75 #[.agg #[.int .i64 a0_0,.int .i64 a0_1],.agg #[.int .i64 a1_0,.int .i64 a1_1]] w fun e w'=>e = .returned (.int .i64 r)∧Below w.heap.size w w':=by
 have hu31:=Try.underlying31
 have HB:=aK (Below.refl w.heap.size w)
 have H:(if a1_1>a0_1 then (some 0) else (if a1_1=a0_1 then (if a1_0>a0_0 then (some 0) else (some 1)) else (some 1)))=some r:=h
 clear h
 by_cases c3:a1_1>a0_1
 ·rw [if_pos c3] at H
  have c3b0:decide (a0_1<a1_1)=true:=decide_eq_true c3
  clear c3
  obtain rfl:=Option.some.inj H
  go_enter Try.func75,Try.ntmps75
  go_wp2_with (first|((with_reducible refine gate_dst (N:=2) rfl ?_);refine box_event ?hg (N:=2) ?hd (cs:=#[.int .i64 a0_0,.int .i64 a0_1]) (t:=31) ?hr ?_;(case hd=>rfl);(case hg=>rfl);(case hr=>first|(go_simp;done)|(go_simp;rfl));intro gb164 hg w4 hbox hb;have n0_:=aK (below_step (by repeat (first|(with_reducible first|exact HB.out|apply below_alloc|apply pw_below_drewN|apply below_drew1)|exact HB.out)) hb);have n1_:=aK (hbox);have n2_:=aK ((by rw [hg];exact (below_size (by repeat (first|(with_reducible first|exact HB.out|apply below_alloc|apply pw_below_drewN|apply below_drew1)|exact HB.out))):w.heap.size≤gb164));have n3_:=n2_;clear HB;have HB:=n0_;have BK164:=n1_;have GW164:=n2_;have GE164:=n3_;clear n0_ n1_ n2_ n3_;clear hb hbox hg)|((with_reducible refine gate_dst (N:=3) rfl ?_);refine box_event ?hg (N:=3) ?hd (cs:=#[.int .i64 a1_0,.int .i64 a1_1]) (t:=31) ?hr ?_;(case hd=>rfl);(case hg=>rfl);(case hr=>first|(go_simp;done)|(go_simp;rfl));intro gb165 hg w5 hbox hb;have n0_:=aK (blk_below (g:=gb164) (o:=.cells #[.int .i64 a0_0,.int .i64 a0_1] 31 (0,0)) (by (with_reducible repeat (first|refine blk_drewN ?_ _|refine blk_drew ?_|refine blk_alloc ?_ _));exact BK164.out) hb);have n1_:=aK (below_step (by repeat (first|(with_reducible first|exact HB.out|apply below_alloc|apply pw_below_drewN|apply below_drew1|refine below_set ?_ GE164.out)|exact HB.out)) hb);have n2_:=aK (hbox);have n3_:=aK ((by rw [hg];exact (below_size (by repeat (first|(with_reducible first|exact HB.out|apply below_alloc|apply pw_below_drewN|apply below_drew1|refine below_set ?_ GE164.out)|exact HB.out))):w.heap.size≤gb165));have n4_:=n3_;have n5_:=aK ((by rw [hg];exact Nat.ne_of_lt (blk_lt (g:=gb164) (o:=.cells #[.int .i64 a0_0,.int .i64 a0_1] 31 (0,0)) (by (with_reducible repeat (first|refine blk_drewN ?_ _|refine blk_drew ?_|refine blk_alloc ?_ _));exact BK164.out)):gb164≠gb165));have n6_:=aK (Ne.symm n5_.out);clear BK164;clear HB;have BK164:=n0_;have HB:=n1_;have BK165:=n2_;have GW165:=n3_;have GE165:=n4_;have NB164_165:=n5_;have NB165_164:=n6_;clear n0_ n1_ n2_ n3_ n4_ n5_ n6_;clear hb hbox hg;have hnb6:=NB165_164.out;have hnc6:=NB164_165.out;have hcz7_0:w5.cell? ⟨gb165,0,none⟩=some (.int .i64 a1_0):=(blk_cell BK165.out 0).trans rfl;have hcz7_1:w5.cell? ⟨gb165,1,none⟩=some (.int .i64 a1_1):=(blk_cell BK165.out 1).trans rfl;have hfz7_0:=blk_frozen BK165.out 0;have hfz7_1:=blk_frozen BK165.out 1;have hcz8_0:w5.cell? ⟨gb164,0,none⟩=some (.int .i64 a0_0):=(blk_cell BK164.out 0).trans rfl;have hcz8_1:w5.cell? ⟨gb164,1,none⟩=some (.int .i64 a0_1):=(blk_cell BK164.out 1).trans rfl;have hfz8_0:=blk_frozen BK164.out 0;have hfz8_1:=blk_frozen BK164.out 1))
  go_ret
  exact ⟨by first|rfl|(simp [errW_none,errW_some] <;> rfl)|(simp [*,errW_none,errW_some] <;> rfl),by repeat (first|(with_reducible first|exact HB.out|apply below_alloc|apply pw_below_drewN|apply below_drew1|refine below_set ?_ GE164.out|refine below_set ?_ GE165.out)|exact HB.out)⟩
 ·rw [if_neg c3] at H
  have c3b0:decide (a0_1<a1_1)=false:=decide_eq_false c3
  clear c3
  by_cases c9:a1_1=a0_1
  ·rw [if_pos c9] at H
   have c9b0:(a1_1 == a0_1)=true:=beq_iff_eq.mpr c9
   have c9b1:(a1_1 != a0_1)=false:=bne_eq_false_iff_eq.mpr c9
   clear c9
   by_cases c10:a1_0>a0_0
   ·rw [if_pos c10] at H
    have c10b0:decide (a0_0<a1_0)=true:=decide_eq_true c10
    clear c10
    obtain rfl:=Option.some.inj H
    go_enter Try.func75,Try.ntmps75
    go_wp2_with (first|((with_reducible refine gate_dst (N:=2) rfl ?_);refine box_event ?hg (N:=2) ?hd (cs:=#[.int .i64 a0_0,.int .i64 a0_1]) (t:=31) ?hr ?_;(case hd=>rfl);(case hg=>rfl);(case hr=>first|(go_simp;done)|(go_simp;rfl));intro gb164 hg w11 hbox hb;have n0_:=aK (below_step (by repeat (first|(with_reducible first|exact HB.out|apply below_alloc|apply pw_below_drewN|apply below_drew1)|exact HB.out)) hb);have n1_:=aK (hbox);have n2_:=aK ((by rw [hg];exact (below_size (by repeat (first|(with_reducible first|exact HB.out|apply below_alloc|apply pw_below_drewN|apply below_drew1)|exact HB.out))):w.heap.size≤gb164));have n3_:=n2_;clear HB;have HB:=n0_;have BK164:=n1_;have GW164:=n2_;have GE164:=n3_;clear n0_ n1_ n2_ n3_;clear hb hbox hg)|((with_reducible refine gate_dst (N:=3) rfl ?_);refine box_event ?hg (N:=3) ?hd (cs:=#[.int .i64 a1_0,.int .i64 a1_1]) (t:=31) ?hr ?_;(case hd=>rfl);(case hg=>rfl);(case hr=>first|(go_simp;done)|(go_simp;rfl));intro gb165 hg w12 hbox hb;have n0_:=aK (blk_below (g:=gb164) (o:=.cells #[.int .i64 a0_0,.int .i64 a0_1] 31 (0,0)) (by (with_reducible repeat (first|refine blk_drewN ?_ _|refine blk_drew ?_|refine blk_alloc ?_ _));exact BK164.out) hb);have n1_:=aK (below_step (by repeat (first|(with_reducible first|exact HB.out|apply below_alloc|apply pw_below_drewN|apply below_drew1|refine below_set ?_ GE164.out)|exact HB.out)) hb);have n2_:=aK (hbox);have n3_:=aK ((by rw [hg];exact (below_size (by repeat (first|(with_reducible first|exact HB.out|apply below_alloc|apply pw_below_drewN|apply below_drew1|refine below_set ?_ GE164.out)|exact HB.out))):w.heap.size≤gb165));have n4_:=n3_;have n5_:=aK ((by rw [hg];exact Nat.ne_of_lt (blk_lt (g:=gb164) (o:=.cells #[.int .i64 a0_0,.int .i64 a0_1] 31 (0,0)) (by (with_reducible repeat (first|refine blk_drewN ?_ _|refine blk_drew ?_|refine blk_alloc ?_ _));exact BK164.out)):gb164≠gb165));have n6_:=aK (Ne.symm n5_.out);clear BK164;clear HB;have BK164:=n0_;have HB:=n1_;have BK165:=n2_;have GW165:=n3_;have GE165:=n4_;have NB164_165:=n5_;have NB165_164:=n6_;clear n0_ n1_ n2_ n3_ n4_ n5_ n6_;clear hb hbox hg;have hnb13:=NB165_164.out;have hnc13:=NB164_165.out;have hcz14_0:w12.cell? ⟨gb165,0,none⟩=some (.int .i64 a1_0):=(blk_cell BK165.out 0).trans rfl;have hcz14_1:w12.cell? ⟨gb165,1,none⟩=some (.int .i64 a1_1):=(blk_cell BK165.out 1).trans rfl;have hfz14_0:=blk_frozen BK165.out 0;have hfz14_1:=blk_frozen BK165.out 1;have hcz15_0:w12.cell? ⟨gb164,0,none⟩=some (.int .i64 a0_0):=(blk_cell BK164.out 0).trans rfl;have hcz15_1:w12.cell? ⟨gb164,1,none⟩=some (.int .i64 a0_1):=(blk_cell BK164.out 1).trans rfl;have hfz15_0:=blk_frozen BK164.out 0;have hfz15_1:=blk_frozen BK164.out 1))
    go_ret
    exact ⟨by first|rfl|(simp [errW_none,errW_some] <;> rfl)|(simp [*,errW_none,errW_some] <;> rfl),by repeat (first|(with_reducible first|exact HB.out|apply below_alloc|apply pw_below_drewN|apply below_drew1|refine below_set ?_ GE164.out|refine below_set ?_ GE165.out)|exact HB.out)⟩
   ·rw [if_neg c10] at H
    have c10b0:decide (a0_0<a1_0)=false:=decide_eq_false c10
    clear c10
    obtain rfl:=Option.some.inj H
    go_enter Try.func75,Try.ntmps75
    go_wp2_with (first|((with_reducible refine gate_dst (N:=2) rfl ?_);refine box_event ?hg (N:=2) ?hd (cs:=#[.int .i64 a0_0,.int .i64 a0_1]) (t:=31) ?hr ?_;(case hd=>rfl);(case hg=>rfl);(case hr=>first|(go_simp;done)|(go_simp;rfl));intro gb164 hg w16 hbox hb;have n0_:=aK (below_step (by repeat (first|(with_reducible first|exact HB.out|apply below_alloc|apply pw_below_drewN|apply below_drew1)|exact HB.out)) hb);have n1_:=aK (hbox);have n2_:=aK ((by rw [hg];exact (below_size (by repeat (first|(with_reducible first|exact HB.out|apply below_alloc|apply pw_below_drewN|apply below_drew1)|exact HB.out))):w.heap.size≤gb164));have n3_:=n2_;clear HB;have HB:=n0_;have BK164:=n1_;have GW164:=n2_;have GE164:=n3_;clear n0_ n1_ n2_ n3_;clear hb hbox hg)|((with_reducible refine gate_dst (N:=3) rfl ?_);refine box_event ?hg (N:=3) ?hd (cs:=#[.int .i64 a1_0,.int .i64 a1_1]) (t:=31) ?hr ?_;(case hd=>rfl);(case hg=>rfl);(case hr=>first|(go_simp;done)|(go_simp;rfl));intro gb165 hg w17 hbox hb;have n0_:=aK (blk_below (g:=gb164) (o:=.cells #[.int .i64 a0_0,.int .i64 a0_1] 31 (0,0)) (by (with_reducible repeat (first|refine blk_drewN ?_ _|refine blk_drew ?_|refine blk_alloc ?_ _));exact BK164.out) hb);have n1_:=aK (below_step (by repeat (first|(with_reducible first|exact HB.out|apply below_alloc|apply pw_below_drewN|apply below_drew1|refine below_set ?_ GE164.out)|exact HB.out)) hb);have n2_:=aK (hbox);have n3_:=aK ((by rw [hg];exact (below_size (by repeat (first|(with_reducible first|exact HB.out|apply below_alloc|apply pw_below_drewN|apply below_drew1|refine below_set ?_ GE164.out)|exact HB.out))):w.heap.size≤gb165));have n4_:=n3_;have n5_:=aK ((by rw [hg];exact Nat.ne_of_lt (blk_lt (g:=gb164) (o:=.cells #[.int .i64 a0_0,.int .i64 a0_1] 31 (0,0)) (by (with_reducible repeat (first|refine blk_drewN ?_ _|refine blk_drew ?_|refine blk_alloc ?_ _));exact BK164.out)):gb164≠gb165));have n6_:=aK (Ne.symm n5_.out);clear BK164;clear HB;have BK164:=n0_;have HB:=n1_;have BK165:=n2_;have GW165:=n3_;have GE165:=n4_;have NB164_165:=n5_;have NB165_164:=n6_;clear n0_ n1_ n2_ n3_ n4_ n5_ n6_;clear hb hbox hg;have hnb18:=NB165_164.out;have hnc18:=NB164_165.out;have hcz19_0:w17.cell? ⟨gb165,0,none⟩=some (.int .i64 a1_0):=(blk_cell BK165.out 0).trans rfl;have hcz19_1:w17.cell? ⟨gb165,1,none⟩=some (.int .i64 a1_1):=(blk_cell BK165.out 1).trans rfl;have hfz19_0:=blk_frozen BK165.out 0;have hfz19_1:=blk_frozen BK165.out 1;have hcz20_0:w17.cell? ⟨gb164,0,none⟩=some (.int .i64 a0_0):=(blk_cell BK164.out 0).trans rfl;have hcz20_1:w17.cell? ⟨gb164,1,none⟩=some (.int .i64 a0_1):=(blk_cell BK164.out 1).trans rfl;have hfz20_0:=blk_frozen BK164.out 0;have hfz20_1:=blk_frozen BK164.out 1))
    go_ret
    exact ⟨by first|rfl|(simp [errW_none,errW_some] <;> rfl)|(simp [*,errW_none,errW_some] <;> rfl),by repeat (first|(with_reducible first|exact HB.out|apply below_alloc|apply pw_below_drewN|apply below_drew1|refine below_set ?_ GE164.out|refine below_set ?_ GE165.out)|exact HB.out)⟩
  ·rw [if_neg c9] at H
   have c9b0:(a1_1 == a0_1)=false:=beq_eq_false_iff_ne.mpr c9
   have c9b1:(a1_1 != a0_1)=true:=bne_iff_ne.mpr c9
   obtain rfl:=Option.some.inj H
   go_enter Try.func75,Try.ntmps75
   go_wp2_with (first|((with_reducible refine gate_dst (N:=2) rfl ?_);refine box_event ?hg (N:=2) ?hd (cs:=#[.int .i64 a0_0,.int .i64 a0_1]) (t:=31) ?hr ?_;(case hd=>rfl);(case hg=>rfl);(case hr=>first|(go_simp;done)|(go_simp;rfl));intro gb164 hg w21 hbox hb;have n0_:=aK (below_step (by repeat (first|(with_reducible first|exact HB.out|apply below_alloc|apply pw_below_drewN|apply below_drew1)|exact HB.out)) hb);have n1_:=aK (hbox);have n2_:=aK ((by rw [hg];exact (below_size (by repeat (first|(with_reducible first|exact HB.out|apply below_alloc|apply pw_below_drewN|apply below_drew1)|exact HB.out))):w.heap.size≤gb164));have n3_:=n2_;clear HB;have HB:=n0_;have BK164:=n1_;have GW164:=n2_;have GE164:=n3_;clear n0_ n1_ n2_ n3_;clear hb hbox hg)|((with_reducible refine gate_dst (N:=3) rfl ?_);refine box_event ?hg (N:=3) ?hd (cs:=#[.int .i64 a1_0,.int .i64 a1_1]) (t:=31) ?hr ?_;(case hd=>rfl);(case hg=>rfl);(case hr=>first|(go_simp;done)|(go_simp;rfl));intro gb165 hg w22 hbox hb;have n0_:=aK (blk_below (g:=gb164) (o:=.cells #[.int .i64 a0_0,.int .i64 a0_1] 31 (0,0)) (by (with_reducible repeat (first|refine blk_drewN ?_ _|refine blk_drew ?_|refine blk_alloc ?_ _));exact BK164.out) hb);have n1_:=aK (below_step (by repeat (first|(with_reducible first|exact HB.out|apply below_alloc|apply pw_below_drewN|apply below_drew1|refine below_set ?_ GE164.out)|exact HB.out)) hb);have n2_:=aK (hbox);have n3_:=aK ((by rw [hg];exact (below_size (by repeat (first|(with_reducible first|exact HB.out|apply below_alloc|apply pw_below_drewN|apply below_drew1|refine below_set ?_ GE164.out)|exact HB.out))):w.heap.size≤gb165));have n4_:=n3_;have n5_:=aK ((by rw [hg];exact Nat.ne_of_lt (blk_lt (g:=gb164) (o:=.cells #[.int .i64 a0_0,.int .i64 a0_1] 31 (0,0)) (by (with_reducible repeat (first|refine blk_drewN ?_ _|refine blk_drew ?_|refine blk_alloc ?_ _));exact BK164.out)):gb164≠gb165));have n6_:=aK (Ne.symm n5_.out);clear BK164;clear HB;have BK164:=n0_;have HB:=n1_;have BK165:=n2_;have GW165:=n3_;have GE165:=n4_;have NB164_165:=n5_;have NB165_164:=n6_;clear n0_ n1_ n2_ n3_ n4_ n5_ n6_;clear hb hbox hg;have hnb23:=NB165_164.out;have hnc23:=NB164_165.out;have hcz24_0:w22.cell? ⟨gb165,0,none⟩=some (.int .i64 a1_0):=(blk_cell BK165.out 0).trans rfl;have hcz24_1:w22.cell? ⟨gb165,1,none⟩=some (.int .i64 a1_1):=(blk_cell BK165.out 1).trans rfl;have hfz24_0:=blk_frozen BK165.out 0;have hfz24_1:=blk_frozen BK165.out 1;have hcz25_0:w22.cell? ⟨gb164,0,none⟩=some (.int .i64 a0_0):=(blk_cell BK164.out 0).trans rfl;have hcz25_1:w22.cell? ⟨gb164,1,none⟩=some (.int .i64 a0_1):=(blk_cell BK164.out 1).trans rfl;have hfz25_0:=blk_frozen BK164.out 0;have hfz25_1:=blk_frozen BK164.out 1))
   go_ret
   exact ⟨by first|rfl|(simp [errW_none,errW_some] <;> rfl)|(simp [*,errW_none,errW_some] <;> rfl),by repeat (first|(with_reducible first|exact HB.out|apply below_alloc|apply pw_below_drewN|apply below_drew1|refine below_set ?_ GE164.out|refine below_set ?_ GE165.out)|exact HB.out)⟩
def halfV (a b:S31):Int:=(wind_half.f a.f0 a.f1 b.f0 b.f1).getD 0
theorem half_some (a b:S31):wind_half.f a.f0 a.f1 b.f0 b.f1=some (halfV a b):=by
 unfold halfV wind_half.f
 (repeat' split) <;> rfl
def nxt2 (l:List S31) (i:Nat):S31:=rd_T31 l (((i+2) % l.length:Nat):Int)
def convGo (l : List S31) : Nat → Option Int
 | 0=>some 0
 | i+1=>(convGo l i).bind fun n=>if signV (rd_T31 l (i:Int)) (nxt l i) (nxt2 l i)≤0 then none else some (if halfV (rd_T31 l (i:Int)) (nxt l i)>halfV (nxt l i) (nxt2 l i) then n+1 else n)
theorem convGo_small (l : List S31) : ∀ (i : Nat) (n : Int), convGo l i = some n → 0 ≤ n ∧ n ≤ i
 | 0,n,h=>by obtain rfl:=Option.some.inj h;simp
 | i+1,n,h=>by
  obtain ⟨m,hm,h⟩:=Option.bind_eq_some_iff.mp h
  have ih:=convGo_small l i m hm
  split at h
  ·cases h
  ·have:=Option.some.inj h;split at this <;> omega
theorem convGo_none (l : List S31) (i : Nat) (h : convGo l i = none) : ∀ d, convGo l (i + d) = none
 | 0=>h
 | d+1=>by show (convGo l (i+d)).bind _=none;rw [convGo_none l i h d];rfl
def convB (l:List S31):Bool:=match convGo l l.length with|some n=>n == 1|none=>false
def wind_convex.f (l0:List S31):Option Bool:=if 1≤l0.length∧l0.length≤1000000 then some (convB l0) else none
set_option maxHeartbeats 4000000 in
theorem wind_convex.calls (A0 : Option Addr) (c0 : Nat) (l0 : List S31) (r : Bool) (w : World) (hr0 : Kd.C k31 w A0 l0.length l0) (hc0 : l0.length ≤ c0) (h : wind_convex.f l0 = some r) :
  Calls Try.prog 57 #[.slice A0 l0.length c0] w fun e w'=>e = .returned (.bool r)∧Below w.heap.size w w':=by
 have hu:=Try.underlying31
 unfold wind_convex.f at h
 by_cases hl:1≤l0.length∧l0.length≤1000000
 case neg=>rw [if_neg hl] at h;cases h
 rw [if_pos hl] at h
 have HRES:=aK (Option.some.inj h)
 have HL:=aK hl
 have HR0:=aK hr0
 have h0i:(0:Int)<(l0.length:Int):=by omega
 have h0n:0<l0.length:=by omega
 have hz:((l0.length:Int) == 0)=false:=beq_eq_false_iff_ne.mpr (by omega)
 have hz2:((l0.length:Int) != 0)=true:=bne_iff_ne.mpr (by omega)
 have hne : ¬ (l0=[]):=by rintro rfl;simp at h0n
 clear h hl hr0
 go_enter Try.func57,Try.ntmps57
 go_wp2
 go_loopg [4,13] l0.length (fun gg s4 s13 wr=>∃ (kk:Nat) (n:Int),kk≤l0.length∧l0.length≤gg+kk∧s13 = .int .i64 kk∧s4 = .int .i64 n∧Aside0 (convGo l0 kk=some n)∧Aside0 (Below w.heap.size w wr))
 case atStart=>exact ⟨0,0,by omega,by omega,rfl,rfl,⟨rfl⟩,⟨Below.refl w.heap.size w⟩⟩
 case round =>
  obtain ⟨kk,n,hkk,hg,rfl,rfl,HN,HB⟩:=hrel
  by_cases hlt:kk<l0.length
  ·have hlti:(kk:Int)<(l0.length:Int):=by omega
   have hk0:0≤(kk:Int):=by omega
   have m1:=Nat.mod_lt (kk+1) h0n
   have m2:=Nat.mod_lt (kk+2) h0n
   obtain ⟨ad,rfl,hx0,hx1⟩:=at_T31 HR0.out (kk:Int) hk0 hlti
   obtain ⟨ad',e',hy0,hy1⟩:=at_T31 HR0.out (((kk+1) % l0.length:Nat):Int) (by omega) (by omega)
   obtain rfl:ad=ad':=by injection e'
   obtain ⟨ad',e'',hv0,hv1⟩:=at_T31 HR0.out (((kk+2) % l0.length:Nat):Int) (by omega) (by omega)
   obtain rfl:ad=ad':=by injection e''
   simp only [Int.toNat_natCast] at hx0 hx1 hy0 hy1 hv0 hv1
   have hx0:=(HB.out.cell (World.block_lt_of_cell? w _ hx0)).trans hx0
   have hx1:=(HB.out.cell (World.block_lt_of_cell? w _ hx1)).trans hx1
   have hn:=HN.out
   have hstep:convGo l0 (kk+1)=(convGo l0 kk).bind fun n=>if signV (rd_T31 l0 (kk:Int)) (nxt l0 kk) (nxt2 l0 kk)≤0 then none else some (if halfV (rd_T31 l0 (kk:Int)) (nxt l0 kk)>halfV (nxt l0 kk) (nxt2 l0 kk) then n+1 else n):=rfl
   rw [hn] at hstep
   have hsm:=convGo_small l0 kk n hn
   unfold nxt nxt2 at hstep
   have i1:Int.tmod (wrap64 ((kk:Int)+1)) (l0.length:Int)=(((kk+1) % l0.length:Nat):Int):=by
    rw [show wrap64 ((kk:Int)+1)=((kk+1:Nat):Int) by have:=HL.out;unfold wrap64;omega,Int.tmod_eq_emod_of_nonneg (by omega)];exact (Int.natCast_emod _ _).symm
   have i2:Int.tmod (wrap64 ((kk:Int)+2)) (l0.length:Int)=(((kk+2) % l0.length:Nat):Int):=by
    rw [show wrap64 ((kk:Int)+2)=((kk+2:Nat):Int) by have:=HL.out;unfold wrap64;omega,Int.tmod_eq_emod_of_nonneg (by omega)];exact (Int.natCast_emod _ _).symm
   have hw1:wrap64 ((kk:Int)+1)=((kk+1:Nat):Int):=by have:=HL.out;unfold wrap64;omega
   have hn1:wrap64 (n+1)=n+1:=by have:=HL.out;unfold wrap64;omega
   have j1:(((kk+1) % l0.length:Nat):Int)<(l0.length:Int):=by omega
   have j2:(((kk+2) % l0.length:Nat):Int)<(l0.length:Int):=by omega
   have i3:Int.tmod (IntKind.i64.wrap ((kk:Int)+1)) (l0.length:Int)=(((kk+1) % l0.length:Nat):Int):=by rw [show IntKind.i64.wrap ((kk:Int)+1)=wrap64 ((kk:Int)+1) from i64_w _];exact i1
   have i4:Int.tmod (IntKind.i64.wrap ((kk:Int)+2)) (l0.length:Int)=(((kk+2) % l0.length:Nat):Int):=by rw [show IntKind.i64.wrap ((kk:Int)+2)=wrap64 ((kk:Int)+2) from i64_w _];exact i2
   have j3:(0:Int)≤(((kk+1) % l0.length:Nat):Int):=by omega
   have j4:(0:Int)≤(((kk+2) % l0.length:Nat):Int):=by omega
   have HW1:=aK hw1
   have HN1:=aK hn1
   have HST:=aK hstep
   generalize (kk+1) % l0.length=q1 at *
   generalize (kk+2) % l0.length=q2 at *
   generalize rd_T31 l0 (kk:Int)=a at *
   generalize rd_T31 l0 (q1:Int)=b at *
   generalize rd_T31 l0 (q2:Int)=c at *
   have hsc:=fun V=>wind_Sign.calls a.f0 a.f1 b.f0 b.f1 c.f0 c.f1 _ V (sign_some a b c)
   have HSC:=aK hsc
   clear hn hstep hsm e' e'' hw1 hn1 hsc m1 m2
   have hy0:=(HB.out.cell (World.block_lt_of_cell? w _ hy0)).trans hy0
   have hy1:=(HB.out.cell (World.block_lt_of_cell? w _ hy1)).trans hy1
   have hv0:=(HB.out.cell (World.block_lt_of_cell? w _ hv0)).trans hv0
   have hv1:=(HB.out.cell (World.block_lt_of_cell? w _ hv1)).trans hv1
   have BA:=aK (blk_new wr (.cells #[.int .i64 a.f0,.int .i64 a.f1] 31))
   have HB1:=aK (below_alloc HB.out (.cells #[.int .i64 a.f0,.int .i64 a.f1] 31))
   go_upto_region 6 with (fail)
   go_cut [7,8] (fun v7 v8 wc=>∃ g7 g8:Nat,v7 = .pointer (some ⟨g7,0,none⟩)∧v8 = .pointer (some ⟨g8,0,none⟩)∧Aside0 (wc.heap[g7]?=some (.cells #[.int .i64 b.f0,.int .i64 b.f1] 31 (0,0)))∧Aside0 (wc.heap[g8]?=some (.cells #[.int .i64 c.f0,.int .i64 c.f1] 31 (0,0)))∧Aside0 (wc.heap[wr.heap.size]?=some (.cells #[.int .i64 a.f0,.int .i64 a.f1] 31 (0,0)))∧Aside0 (Below w.heap.size w wc))
   case first =>
    have z0:=(World.cell?_alloc_lt wr (.cells #[.int .i64 a.f0,.int .i64 a.f1] 31) _ (World.block_lt_of_cell? _ _ hy0)).trans hy0
    have z1:=(World.cell?_alloc_lt wr (.cells #[.int .i64 a.f0,.int .i64 a.f1] 31) _ (World.block_lt_of_cell? _ _ hy1)).trans hy1
    have z2:=(World.cell?_alloc_lt wr (.cells #[.int .i64 a.f0,.int .i64 a.f1] 31) _ (World.block_lt_of_cell? _ _ hv0)).trans hv0
    have z3:=(World.cell?_alloc_lt wr (.cells #[.int .i64 a.f0,.int .i64 a.f1] 31) _ (World.block_lt_of_cell? _ _ hv1)).trans hv1
    clear hx0 hx1 hy0 hy1 hv0 hv1
    generalize hV:wr.alloc (.cells #[.int .i64 a.f0,.int .i64 a.f1] 31)=V at *
    go_region_held3 (fun w'=>w'.cell? (ad.add (q1*2))=some (.int .i64 b.f0)∧w'.cell? ⟨(ad.add (q1*2)).block,(ad.add (q1*2)).off+1,none⟩=some (.int .i64 b.f1)∧w'.cell? (ad.add (q2*2))=some (.int .i64 c.f0)∧w'.cell? ⟨(ad.add (q2*2)).block,(ad.add (q2*2)).off+1,none⟩=some (.int .i64 c.f1)) (go_keep) (fail)
    all_goals go_wp2
    all_goals go_meet
    case rel =>
     exact ⟨_,_,rfl,rfl,⟨blk_drew (blk_alloc (blk_new V _) _)⟩,⟨blk_drew (by have h:=blk_new (V.alloc (.cells #[.int .i64 b.f0,.int .i64 b.f1] 31)) (.cells #[.int .i64 c.f0,.int .i64 c.f1] 31);simp only [World.size_alloc] at h;exact h)⟩,⟨blk_drew (blk_alloc (blk_alloc BA.out _) _)⟩,⟨below_drew1 (below_alloc (below_alloc HB1.out _) _)⟩⟩
    case rel =>
     exact ⟨_,_,rfl,rfl,⟨blk_drew (by have h:=blk_new (V.alloc (.cells #[.int .i64 c.f0,.int .i64 c.f1] 31)) (.cells #[.int .i64 b.f0,.int .i64 b.f1] 31);simp only [World.size_alloc] at h;exact h)⟩,⟨blk_drew (blk_alloc (blk_new V _) _)⟩,⟨blk_drew (blk_alloc (blk_alloc BA.out _) _)⟩,⟨below_drew1 (below_alloc (below_alloc HB1.out _) _)⟩⟩
   case rest =>
    obtain ⟨g7,g8,rfl,rfl,B7,B8,B6,HB2⟩:=hcut
    clear hx0 hx1 hy0 hy1 hv0 hv1 i1 i2 i3 i4 BA HB1
    have x0:=(blk_cell B6.out 0).trans rfl
    have x1:=(blk_cell B6.out 1).trans rfl
    have y0:=(blk_cell B7.out 0).trans rfl
    have y1:=(blk_cell B7.out 1).trans rfl
    have v0:=(blk_cell B8.out 0).trans rfl
    have v1:=(blk_cell B8.out 1).trans rfl
    go_wp2_with fail
    refine (HSC.out _).mono ?_
    rintro e W1 ⟨rfl,hq⟩
    have HB3:=aK (below_step HB2.out hq)
    have C6:=aK (blk_below B6.out hq)
    have C7:=aK (blk_below B7.out hq)
    have C8:=aK (blk_below B8.out hq)
    clear x0 x1 y0 y1 v0 v1 hq B6 B7 B8 HB2
    have hst:=HST.out
    simp only [Option.bind_some] at hst
    by_cases hs:signV a b c≤0
    ·have hsb:decide (signV a b c≤0)=true:=decide_eq_true hs
     rw [if_pos hs] at hst
     obtain rfl:r=false:=by
      have:=convGo_none l0 (kk+1) hst (l0.length-(kk+1))
      rw [show kk+1+(l0.length-(kk+1))=l0.length by omega] at this
      rw [← HRES.out];unfold convB;rw [this]
     clear hst
     go_wp2
     go_ret
     exact ⟨rfl,HB3.out⟩
    ·have hsb:decide (signV a b c≤0)=false:=decide_eq_false hs
     rw [if_neg hs] at hst
     have HST2:=aK hst
     have H1:=aK (fun V=>wind_half.calls a.f0 a.f1 b.f0 b.f1 _ V (half_some a b))
     have H2:=aK (fun V=>wind_half.calls b.f0 b.f1 c.f0 c.f1 _ V (half_some b c))
     clear hst HST HSC
     have x0:=(blk_cell C6.out 0).trans rfl
     have x1:=(blk_cell C6.out 1).trans rfl
     have y0:=(blk_cell C7.out 0).trans rfl
     have y1:=(blk_cell C7.out 1).trans rfl
     have v0:=(blk_cell C8.out 0).trans rfl
     have v1:=(blk_cell C8.out 1).trans rfl
     have hbb:=HB3.out
     go_upto_region 9 with (fail)
     go_region_held3 (fun w'=>w'.cell? ⟨wr.heap.size,0,none⟩=some (.int .i64 a.f0)∧w'.cell? ⟨wr.heap.size,1,none⟩=some (.int .i64 a.f1)∧w'.cell? ⟨g7,0,none⟩=some (.int .i64 b.f0)∧w'.cell? ⟨g7,1,none⟩=some (.int .i64 b.f1)∧w'.cell? ⟨g8,0,none⟩=some (.int .i64 c.f0)∧w'.cell? ⟨g8,1,none⟩=some (.int .i64 c.f1)∧Below w.heap.size w w') (first|exact ⟨x0,x1,y0,y1,v0,v1,below_drew1 hbb⟩|(obtain ⟨s0,s1,s2,s3,s4,s5,s6⟩:=‹_∧_∧_∧_∧_∧_∧Below _ _ _›;exact ⟨(hb.cell (World.block_lt_of_cell? _ _ s0)).trans s0,(hb.cell (World.block_lt_of_cell? _ _ s1)).trans s1,(hb.cell (World.block_lt_of_cell? _ _ s2)).trans s2,(hb.cell (World.block_lt_of_cell? _ _ s3)).trans s3,(hb.cell (World.block_lt_of_cell? _ _ s4)).trans s4,(hb.cell (World.block_lt_of_cell? _ _ s5)).trans s5,below_step s6 hb⟩)) ((first|(go_at_call 75;with_reducible refine (H1.out _).mono ?_;rintro e W2 ⟨rfl,hb⟩)|(go_at_call 75;with_reducible refine (H2.out _).mono ?_;rintro e W2 ⟨rfl,hb⟩)))
     all_goals
      obtain ⟨-,-,-,-,-,-,s6⟩:=‹_∧_∧_∧_∧_∧_∧Below _ _ _›
      have HB4:=aK s6
      clear x0 x1 y0 y1 v0 v1 hbb s6 C6 C7 C8 HB3 H1 H2
      have h2:=HST2.out
      by_cases hh:halfV b c<halfV a b
      ·have hhb:decide (halfV b c<halfV a b)=true:=decide_eq_true hh
       rw [if_pos hh] at h2
       have HST3:=aK h2
       clear h2
       go_wp2
       go_roundg (l0.length-(kk+1))
       case measure=>omega
       case rel=>exact ⟨kk+1,n+1,by omega,by omega,congrArg (Value.int .i64) HW1.out,congrArg (Value.int .i64) HN1.out,HST3,HB4⟩
      ·have hhb:decide (halfV b c<halfV a b)=false:=decide_eq_false hh
       rw [if_neg hh] at h2
       have HST3:=aK h2
       clear h2
       go_wp2
       go_roundg (l0.length-(kk+1))
       case measure=>omega
       case rel=>exact ⟨kk+1,n,by omega,by omega,congrArg (Value.int .i64) HW1.out,rfl,HST3,HB4⟩
  ·have hlti : ¬ (kk:Int)<(l0.length:Int):=by omega
   obtain rfl:kk=l0.length:=by omega
   obtain rfl:(n == 1)=r:=by rw [← HRES.out];unfold convB;rw [HN.out]
   clear HRES
   go_wp2
   go_ret
   exact ⟨rfl,HB.out⟩
def wind_Convex.f (l0:List (S31)):Option (Bool×Int):=(wind_valid.f l0).bind fun t166=>(if t166=true then (if (l0.length:Int)<3 then (if (l0.length:Int)=1 then (some (true,0)) else (if 0<(l0.length:Int) then (if 1<(l0.length:Int) then (some ((!(((rd_T31 l0 0).f0) == ((rd_T31 l0 1).f0)) || (!(((rd_T31 l0 0).f1) == ((rd_T31 l0 1).f1)))),0)) else (none)) else (none))) else ((wind_convex.f l0).bind fun t169=>(some (t169,0)))) else (some (false,2)))
set_option maxHeartbeats 8000000 in
theorem wind_Convex.calls (A0 : Option Addr) (c0 : Nat) (l0 : List (S31)) (r1 : Bool) (r2 : Int) (w : World) (hr0 : Kd.C k31 w A0 l0.length l0) (hc0 : l0.length ≤ c0) (h : wind_Convex.f l0 = some (r1, r2)) :
  Calls Try.prog 41 #[.slice A0 l0.length c0] w fun e w'=>e = .returned (.tuple #[.bool r1,.int .i64 r2])∧Below w.heap.size w w':=by
 have hu31:=Try.underlying31
 have HR0:=aK hr0
 have HC0:=aK hc0
 clear hr0 hc0
 have HB:=aK (Below.refl w.heap.size w)
 have H:((wind_valid.f l0).bind fun t166=>(if t166=true then (if (l0.length:Int)<3 then (if (l0.length:Int)=1 then (some (true,0)) else (if 0<(l0.length:Int) then (if 1<(l0.length:Int) then (some ((!(((rd_T31 l0 0).f0) == ((rd_T31 l0 1).f0)) || (!(((rd_T31 l0 0).f1) == ((rd_T31 l0 1).f1)))),0)) else (none)) else (none))) else ((wind_convex.f l0).bind fun t169=>(some (t169,0)))) else (some (false,2))))=some (r1,r2):=h
 clear h
 replace H:=Option.bind_eq_some_iff.mp H
 obtain ⟨t166,A20,H⟩:=H
 replace H:(if t166=true then (if (l0.length:Int)<3 then (if (l0.length:Int)=1 then (some (true,0)) else (if 0<(l0.length:Int) then (if 1<(l0.length:Int) then (some ((!(((rd_T31 l0 0).f0) == ((rd_T31 l0 1).f0)) || (!(((rd_T31 l0 0).f1) == ((rd_T31 l0 1).f1)))),0)) else (none)) else (none))) else ((wind_convex.f l0).bind fun t169=>(some (t169,0)))) else (some (false,2)))=some (r1,r2):=H
 have A2:=aK A20
 clear A20
 by_cases c3:t166=true
 ·subst c3
  have H1:(if (l0.length:Int)<3 then (if (l0.length:Int)=1 then (some (true,0)) else (if 0<(l0.length:Int) then (if 1<(l0.length:Int) then (some ((!(((rd_T31 l0 0).f0) == ((rd_T31 l0 1).f0)) || (!(((rd_T31 l0 0).f1) == ((rd_T31 l0 1).f1)))),0)) else (none)) else (none))) else ((wind_convex.f l0).bind fun t169=>(some (t169,0))))=some (r1,r2):=by rw [if_pos rfl] at H;exact H
  clear H
  have H:=H1
  clear H1
  by_cases c4:(l0.length:Int)<3
  ·rw [if_pos c4] at H
   have c4b0:decide ((l0.length:Int)<3)=true:=decide_eq_true c4
   have c4b1:decide (l0.length<3)=true:=decide_eq_true (by omega)
   clear c4
   by_cases c5:(l0.length:Int)=1
   ·rw [if_pos c5] at H
    have c5b0:((l0.length:Int) == 1)=true:=beq_iff_eq.mpr c5
    have c5b1:((l0.length:Int) != 1)=false:=bne_eq_false_iff_eq.mpr c5
    clear c5
    simp only [Option.some.injEq,Prod.mk.injEq] at H
    obtain ⟨rfl,rfl⟩:=H
    go_enter Try.func41,Try.ntmps41
    go_wp2_with (go_at_call 32;(with_reducible refine (wind_valid.calls _ _ l0 true _ ?side1 ?side2 A2.out).mono ?_);(case side1=>repeat (first|exact HR0.out|(with_reducible refine Kd.C_alloc ?_ _)|(with_reducible refine Kd.C_drewN ?_ _)|(with_reducible refine Kd.C_drew ?_)));(case side2=>exact HC0.out);rintro e w6 ⟨rfl,hb⟩;have n0_:=aK (below_step (by repeat (first|(with_reducible first|exact HB.out|apply below_alloc|apply pw_below_drewN|apply below_drew1)|exact HB.out)) hb);clear HB;have HB:=n0_;clear n0_;(try clear hb);(try clear hb2);(try clear hk);(try clear hi))
    repeat (go_quiet (fail);try go_wp2_with (fail))
    go_ret2
    exact ⟨by first|rfl|(simp [errW_none,errW_some] <;> rfl)|(simp [*,errW_none,errW_some] <;> rfl),by repeat (first|(with_reducible first|exact HB.out|apply below_alloc|apply pw_below_drewN|apply below_drew1)|exact HB.out)⟩
   ·rw [if_neg c5] at H
    have c5b0:((l0.length:Int) == 1)=false:=beq_eq_false_iff_ne.mpr c5
    have c5b1:((l0.length:Int) != 1)=true:=bne_iff_ne.mpr c5
    by_cases c7:0<(l0.length:Int)
    ·rw [if_pos c7] at H
     have c7b0:decide (0<(l0.length:Int))=true:=decide_eq_true c7
     have c7b1:decide (0<l0.length)=true:=decide_eq_true (by omega)
     clear c7
     by_cases c8:1<(l0.length:Int)
     ·rw [if_pos c8] at H
      have c8b0:decide (1<(l0.length:Int))=true:=decide_eq_true c8
      have c8b1:decide (1<l0.length)=true:=decide_eq_true (by omega)
      clear c8
      simp only [Option.some.injEq,Prod.mk.injEq] at H
      obtain ⟨rfl,rfl⟩:=H
      go_enter Try.func41,Try.ntmps41
      go_wp2_with (go_at_call 32;(with_reducible refine (wind_valid.calls _ _ l0 true _ ?side1 ?side2 A2.out).mono ?_);(case side1=>repeat (first|exact HR0.out|(with_reducible refine Kd.C_alloc ?_ _)|(with_reducible refine Kd.C_drewN ?_ _)|(with_reducible refine Kd.C_drew ?_)));(case side2=>exact HC0.out);rintro e w9 ⟨rfl,hb⟩;have n0_:=aK (below_step (by repeat (first|(with_reducible first|exact HB.out|apply below_alloc|apply pw_below_drewN|apply below_drew1)|exact HB.out)) hb);clear HB;have HB:=n0_;clear n0_;(try clear hb);(try clear hb2);(try clear hk);(try clear hi);have p167:0≤(0:Int):=(by omega);have q167:0<(l0.length:Int):=of_decide_eq_true (by first|(with_reducible assumption)|assumption);obtain ⟨ad167,e167,hx167_0,hx167_1⟩:=at_T31 HR0.out 0 p167 q167;cases e167;have qi167:(0<l0.length)=True:=eq_true (by omega);(try rw [show ((0:Int)).toNat=0 from rfl] at hx167_0);(try rw [show 0*2=0 from rfl] at hx167_0);(try rw [Addr.add_zero'] at hx167_0);(try rw [show ((0:Int)).toNat=0 from rfl] at hx167_1);(try rw [show 0*2=0 from rfl] at hx167_1);(try rw [Addr.add_zero'] at hx167_1);replace hx167_0:=(HB.out.cell (World.block_lt_of_cell? w _ hx167_0)).trans hx167_0;replace hx167_1:=(HB.out.cell (World.block_lt_of_cell? w _ hx167_1)).trans hx167_1;replace p167:=eq_true p167;replace q167:=eq_true q167;have p168:0≤(1:Int):=(by omega);have q168:1<(l0.length:Int):=of_decide_eq_true (by first|(with_reducible assumption)|assumption);obtain ⟨ad168,e168,hx168_0,hx168_1⟩:=at_T31 HR0.out 1 p168 q168;obtain rfl:ad167=ad168:=(by injection e168);(try simp only [show (1:Int).toNat=1 from rfl,Nat.reduceMul,Nat.reduceEqDiff,Go.Addr.add,↓reduceIte] at hx168_0);(try simp only [show (1:Int).toNat=1 from rfl,Nat.reduceMul,Nat.reduceEqDiff,Go.Addr.add,↓reduceIte] at hx168_1);have qi168:(1<l0.length)=True:=eq_true (by omega);(try rw [show ((1:Int)).toNat=1 from rfl] at hx168_0);(try rw [show 1*2=2 from rfl] at hx168_0);(try rw [show ((1:Int)).toNat=1 from rfl] at hx168_1);(try rw [show 1*2=2 from rfl] at hx168_1);replace hx168_0:=(HB.out.cell (World.block_lt_of_cell? w _ hx168_0)).trans hx168_0;replace hx168_1:=(HB.out.cell (World.block_lt_of_cell? w _ hx168_1)).trans hx168_1;replace p168:=eq_true p168;replace q168:=eq_true q168)
      repeat (go_quiet (fail);try go_wp2_with (fail))
      go_ret2
      exact ⟨by first|rfl|(simp [errW_none,errW_some] <;> rfl)|(simp [*,errW_none,errW_some] <;> rfl),by repeat (first|(with_reducible first|exact HB.out|apply below_alloc|apply pw_below_drewN|apply below_drew1)|exact HB.out)⟩
     ·rw [if_neg c8] at H
      exact absurd H (by simp)
    ·rw [if_neg c7] at H
     exact absurd H (by simp)
  ·rw [if_neg c4] at H
   have c4b0:decide ((l0.length:Int)<3)=false:=decide_eq_false c4
   have c4b1:decide (l0.length<3)=false:=decide_eq_false (by omega)
   clear c4
   replace H:=Option.bind_eq_some_iff.mp H
   obtain ⟨t169,A100,H⟩:=H
   replace H:(some (t169,0))=some (r1,r2):=H
   have A10:=aK A100
   clear A100
   simp only [Option.some.injEq,Prod.mk.injEq] at H
   obtain ⟨rfl,rfl⟩:=H
   go_enter Try.func41,Try.ntmps41
   go_wp2_with (first|(go_at_call 32;(with_reducible refine (wind_valid.calls _ _ l0 true _ ?side1 ?side2 A2.out).mono ?_);(case side1=>repeat (first|exact HR0.out|(with_reducible refine Kd.C_alloc ?_ _)|(with_reducible refine Kd.C_drewN ?_ _)|(with_reducible refine Kd.C_drew ?_)));(case side2=>exact HC0.out);rintro e w11 ⟨rfl,hb⟩;have n0_:=aK (below_step (by repeat (first|(with_reducible first|exact HB.out|apply below_alloc|apply pw_below_drewN|apply below_drew1)|exact HB.out)) hb);clear HB;have HB:=n0_;clear n0_;(try clear hb);(try clear hb2);(try clear hk);(try clear hi))|(go_at_call 57;(with_reducible refine (wind_convex.calls _ _ l0 t169 _ ?side1 ?side2 A10.out).mono ?_);(case side1=>repeat (first|exact (Kd.C_below HR0.out HB.out)|(with_reducible refine Kd.C_alloc ?_ _)|(with_reducible refine Kd.C_drewN ?_ _)|(with_reducible refine Kd.C_drew ?_)));(case side2=>exact HC0.out);rintro e w12 ⟨rfl,hb⟩;have n0_:=aK (below_step (by repeat (first|(with_reducible first|exact HB.out|apply below_alloc|apply pw_below_drewN|apply below_drew1)|exact HB.out)) hb);clear HB;have HB:=n0_;clear n0_;(try clear hb);(try clear hb2);(try clear hk);(try clear hi)))
   repeat (go_quiet (fail);try go_wp2_with (fail))
   go_ret2
   exact ⟨by first|rfl|(simp [errW_none,errW_some] <;> rfl)|(simp [*,errW_none,errW_some] <;> rfl),by repeat (first|(with_reducible first|exact HB.out|apply below_alloc|apply pw_below_drewN|apply below_drew1)|exact HB.out)⟩
 ·replace c3:=Bool.eq_false_iff.mpr c3
  subst c3
  have H1:(some (false,2))=some (r1,r2):=by rw [if_neg (show ¬ (false=true) by decide)] at H;exact H
  clear H
  have H:=H1
  clear H1
  simp only [Option.some.injEq,Prod.mk.injEq] at H
  obtain ⟨rfl,rfl⟩:=H
  go_enter Try.func41,Try.ntmps41
  go_wp2_with (go_at_call 32;(with_reducible refine (wind_valid.calls _ _ l0 false _ ?side1 ?side2 A2.out).mono ?_);(case side1=>repeat (first|exact HR0.out|(with_reducible refine Kd.C_alloc ?_ _)|(with_reducible refine Kd.C_drewN ?_ _)|(with_reducible refine Kd.C_drew ?_)));(case side2=>exact HC0.out);rintro e w13 ⟨rfl,hb⟩;have n0_:=aK (below_step (by repeat (first|(with_reducible first|exact HB.out|apply below_alloc|apply pw_below_drewN|apply below_drew1)|exact HB.out)) hb);clear HB;have HB:=n0_;clear n0_;(try clear hb);(try clear hb2);(try clear hk);(try clear hi))
  repeat (go_quiet (fail);try go_wp2_with (fail))
  go_ret2
  exact ⟨by first|rfl|(simp [errW_none,errW_some] <;> rfl)|(simp [*,errW_none,errW_some] <;> rfl),by repeat (first|(with_reducible first|exact HB.out|apply below_alloc|apply pw_below_drewN|apply below_drew1)|exact HB.out)⟩
attribute [local go_sem high] eqIn_pt
def minP (l:List S31):S31:=pickAt (fun x m=>decide (cmpB x m<0)) l (l.length-1)
def pen_Valid.f (l0:List S31):Option Bool:=if l0.length<1 then some false else if 64<l0.length then some false else (flat_ArePoints.f l0).bind fun b=>if b=true then (wind_Convex.f l0).bind fun c=>some (c.1 && eqP (minP l0) (rd_T31 l0 0)) else some false
set_option maxHeartbeats 4000000 in
theorem pen_Valid.calls (A0 : Option Addr) (c0 : Nat) (l0 : List S31) (r : Bool) (w : World) (hr0 : Kd.C k31 w A0 l0.length l0) (hc0 : l0.length ≤ c0) (h : pen_Valid.f l0 = some r) :
  Calls Try.prog 22 #[.slice A0 l0.length c0] w fun e w'=>e = .returned (.bool r)∧Below w.heap.size w w':=by
 have hu:=Try.underlying31
 have HR:=aK hr0
 have HC:=aK hc0
 have HB:=aK (Below.refl w.heap.size w)
 unfold pen_Valid.f at h
 by_cases h1:l0.length<1
 ·rw [if_pos h1] at h
  obtain rfl:=Option.some.inj h
  have h1b:decide ((l0.length:Int)<1)=true:=decide_eq_true (by omega)
  clear h h1 hr0 hc0
  go_enter Try.func22,Try.ntmps22
  go_wp2
  go_ret
  exact ⟨rfl,HB.out⟩
 ·rw [if_neg h1] at h
  have h1b:decide ((l0.length:Int)<1)=false:=decide_eq_false (by omega)
  by_cases h2:64<l0.length
  ·rw [if_pos h2] at h
   obtain rfl:=Option.some.inj h
   have h2b:decide ((64:Int)<(l0.length:Int))=true:=decide_eq_true (by omega)
   clear h h1 h2 hr0 hc0
   go_enter Try.func22,Try.ntmps22
   go_wp2
   go_ret
   exact ⟨rfl,HB.out⟩
  ·rw [if_neg h2] at h
   have h2b:decide ((64:Int)<(l0.length:Int))=false:=decide_eq_false (by omega)
   have HL:=aK (show 1≤l0.length∧l0.length≤64 by omega)
   obtain ⟨b,hb,h⟩:=Option.bind_eq_some_iff.mp h
   have HP:=aK hb
   have H:=aK h
   clear hb h h1 h2 hr0 hc0
   go_enter Try.func22,Try.ntmps22
   go_wp2_with fail
   refine (flat_ArePoints.calls A0 c0 l0 b _ HR.out HC.out HP.out).mono ?_
   rintro e W1 ⟨rfl,b1⟩
   have B1:=aK b1
   clear b1 HB
   cases b with
   | false =>
    obtain rfl:false=r:=by have:=H.out;simpa using this
    clear H
    go_wp2
    go_ret
    exact ⟨rfl,B1.out⟩
   | true =>
    have hh:=H.out
    rw [if_pos rfl] at hh
    obtain ⟨⟨ok,er⟩,hcv,hh⟩:=Option.bind_eq_some_iff.mp hh
    have HCV:=aK hcv
    have HX:=aK (Option.some.inj hh)
    clear hcv hh H
    go_wp2_with fail
    refine (wind_Convex.calls A0 c0 l0 ok er _ (Kd.C_below HR.out B1.out) HC.out HCV.out).mono ?_
    rintro e W2 ⟨rfl,b2⟩
    have hb2:=below_step B1.out b2
    have B2:=aK hb2
    have h0i:(0:Int)<(l0.length:Int):=by have:=HL.out;omega
    have h0n:0<l0.length:=by have:=HL.out;omega
    have hne : ¬ (l0=[]):=by rintro rfl;simp at h0n
    obtain ⟨ad,rfl,hx0,hx1⟩:=at_T31 HR.out 0 (by omega) h0i
    have P1:=aK (show W2.drew.cell? ad=some (.int .i64 (rd_T31 l0 0).f0) from (hb2.cell (World.block_lt_of_cell? w _ hx0)).trans hx0)
    have P2:=aK (show W2.drew.cell? ⟨ad.block,ad.off+1,none⟩=some (.int .i64 (rd_T31 l0 0).f1) from (hb2.cell (World.block_lt_of_cell? w _ hx1)).trans hx1)
    have hmin : ∀ W,Below w.heap.size w W→Calls Try.prog 42 #[.slice (some ad) l0.length c0,.func (.func 43) #[] #[]] W fun e w'=>e = .returned (.agg #[.int .i64 (minP l0).f0,.int .i64 (minP l0).f1])∧Below W.heap.size W w':=fun W hW =>
     MinFunc_pts 43 #[] cmpB (enters_own Try.func43 (by kernel_rfl) rfl) (some ad) c0 l0 W (fun V x y hV=>(compare_grows x y V).mono fun e w' ⟨he,hb,_⟩=>⟨he,hb⟩) (Kd.C_below HR.out hW) (by have:=HL.out;omega) HL.out.1
    have HMIN:=aK hmin
    have hx:(ok && ((minP l0).f0 == (rd_T31 l0 0).f0 && ((minP l0).f1 == (rd_T31 l0 0).f1)))=r:=HX.out
    have BD:=aK (below_drew1 hb2)
    clear hx0 hx1 b2 hb2 B1 hmin HX
    generalize rd_T31 l0 0=x at *
    generalize minP l0=m at *
    cases ok with
    | false =>
     obtain rfl:false=r:=by simpa using hx
     clear hx
     go_wp2
     refine start_ (n:=10) (S:=fun w'=>True) (ds:=[]) #[false,false,false,false,false,false,false,false,false,false] (by kernel_rfl) rfl rfl trivial (fun hHeld=>?_)
     refine pure_ (i:=0) (N:=some 23) (v:=?_) (a':=?_) #[true,false,false,false,false,false,false,false,false,false] rfl rfl (by kernel_rfl) (fun _ _ _ h=>h) (Or.inl ⟨by rfl,?_⟩) ?_ ?_
     rotate_left
     ·intro w'
      go_simp
      with_reducible rfl
     rotate_left
     ·simp only [Act.put,lS,i64_w,i32_w]
      rfl
     refine pure_ (i:=1) (N:=some 24) (v:=?_) (a':=?_) #[true,true,false,false,false,false,false,false,false,false] rfl rfl (by kernel_rfl) (fun _ _ _ h=>h) (Or.inl ⟨by rfl,?_⟩) ?_ ?_
     rotate_left
     ·intro w'
      go_simp
      with_reducible rfl
     rotate_left
     ·simp only [Act.put,lS,i64_w,i32_w]
      rfl
     refine pure_ (i:=2) (N:=some 25) (v:=undef) (a':=?_) #[true,true,true,false,false,false,false,false,false,false] rfl rfl (by kernel_rfl) (fun _ _ _ h=>h) (Or.inr ⟨by rfl,rfl⟩) ?_ ?_
     rotate_left
     ·simp only [Act.put,lS,i64_w,i32_w]
      rfl
     refine pure_ (i:=3) (N:=some 26) (v:=undef) (a':=?_) #[true,true,true,true,false,false,false,false,false,false] rfl rfl (by kernel_rfl) (fun _ _ _ h=>h) (Or.inr ⟨by rfl,rfl⟩) ?_ ?_
     rotate_left
     ·simp only [Act.put,lS,i64_w,i32_w]
      rfl
     refine pure_ (i:=4) (N:=some 27) (v:=undef) (a':=?_) #[true,true,true,true,true,false,false,false,false,false] rfl rfl (by kernel_rfl) (fun _ _ _ h=>h) (Or.inr ⟨by rfl,rfl⟩) ?_ ?_
     rotate_left
     ·simp only [Act.put,lS,i64_w,i32_w]
      rfl
     refine pure_ (i:=5) (N:=some 28) (v:=undef) (a':=?_) #[true,true,true,true,true,true,false,false,false,false] rfl rfl (by kernel_rfl) (fun _ _ _ h=>h) (Or.inr ⟨by rfl,rfl⟩) ?_ ?_
     rotate_left
     ·simp only [Act.put,lS,i64_w,i32_w]
      rfl
     refine pure_ (i:=6) (N:=some 29) (v:=undef) (a':=?_) #[true,true,true,true,true,true,true,false,false,false] rfl rfl (by kernel_rfl) (fun _ _ _ h=>h) (Or.inr ⟨by rfl,rfl⟩) ?_ ?_
     rotate_left
     ·simp only [Act.put,lS,i64_w,i32_w]
      rfl
     refine pure_ (i:=7) (N:=some 30) (v:=undef) (a':=?_) #[true,true,true,true,true,true,true,true,false,false] rfl rfl (by kernel_rfl) (fun _ _ _ h=>h) (Or.inr ⟨by rfl,rfl⟩) ?_ ?_
     rotate_left
     ·simp only [Act.put,lS,i64_w,i32_w]
      rfl
     refine pure_ (i:=8) (N:=some 31) (v:=?_) (a':=?_) #[true,true,true,true,true,true,true,true,true,false] rfl rfl (by kernel_rfl) (fun _ _ _ h=>h) (Or.inl ⟨by rfl,?_⟩) ?_ ?_
     rotate_left
     ·intro w'
      go_simp
      with_reducible rfl
     rotate_left
     ·simp only [Act.put,lS,i64_w,i32_w]
      rfl
     refine pure_ (i:=9) (N:=some 2) (v:=?_) (a':=?_) #[true,true,true,true,true,true,true,true,true,true] rfl rfl (by kernel_rfl) (fun _ _ _ h=>h) (Or.inl ⟨by rfl,?_⟩) ?_ ?_
     rotate_left
     ·intro w'
      go_simp
      with_reducible rfl
     rotate_left
     ·simp only [Act.put,lS,i64_w,i32_w]
      rfl
     refine done_ (by kernel_rfl) ?_
     go_wp2
     go_ret
     exact ⟨rfl,BD.out⟩
    | true =>
     rw [Bool.true_and] at hx
     go_wp2
     refine start_ (n:=10) (S:=fun w'=>w'.cell? ad=some (.int .i64 x.f0)∧w'.cell? ⟨ad.block,ad.off+1,none⟩=some (.int .i64 x.f1)∧Below w.heap.size w w') (ds:=[]) #[false,false,false,false,false,false,false,false,false,false] (by kernel_rfl) rfl rfl ⟨P1.out,P2.out,BD.out⟩ (fun hHeld=>?_)
     refine pure_ (i:=0) (N:=some 23) (v:=?_) (a':=?_) #[true,false,false,false,false,false,false,false,false,false] rfl rfl (by kernel_rfl) (fun _ _ _ h=>h) (Or.inl ⟨by rfl,?_⟩) ?_ ?_
     rotate_left
     ·intro w'
      go_simp
      with_reducible rfl
     rotate_left
     ·simp only [Act.put,lS,i64_w,i32_w]
      rfl
     refine pure_ (i:=1) (N:=some 24) (v:=?_) (a':=?_) #[true,true,false,false,false,false,false,false,false,false] rfl rfl (by kernel_rfl) (fun _ _ _ h=>h) (Or.inl ⟨by rfl,?_⟩) ?_ ?_
     rotate_left
     ·intro w'
      go_simp
      with_reducible rfl
     rotate_left
     ·simp only [Act.put,lS,i64_w,i32_w]
      rfl
     refine pure_ (i:=2) (N:=some 25) (v:=?_) (a':=?_) #[true,true,true,false,false,false,false,false,false,false] rfl rfl (by kernel_rfl) (fun _ _ _ h=>h) (Or.inl ⟨by rfl,?_⟩) ?_ ?_
     rotate_left
     ·intro w'
      go_simp
      with_reducible rfl
     rotate_left
     ·simp only [Act.put,lS,i64_w,i32_w]
      rfl
     refine pure_ (i:=4) (N:=some 27) (v:=?_) (a':=?_) #[true,true,true,false,true,false,false,false,false,false] rfl rfl (by kernel_rfl) (fun _ _ _ h=>h) (Or.inl ⟨by rfl,?_⟩) ?_ ?_
     rotate_left
     ·intro w'
      go_simp
      with_reducible rfl
     rotate_left
     ·simp only [Act.put,lS,i64_w,i32_w]
      rfl
     refine pure_ (i:=5) (N:=some 28) (v:=?_) (a':=?_) #[true,true,true,false,true,true,false,false,false,false] rfl rfl (by kernel_rfl) (fun _ _ _ h=>h) (Or.inl ⟨by rfl,?_⟩) ?_ ?_
     rotate_left
     ·intro w'
      go_simp
      with_reducible rfl
     rotate_left
     ·simp only [Act.put,lS,i64_w,i32_w]
      rfl
     refine take_ (i:=6) (N:=some 29) (v:=?_) (a':=?_) #[true,true,true,false,true,true,true,false,false,false] rfl rfl (by kernel_rfl) (fun _ _ _ h=>h) (Or.inl ⟨by rfl,?_⟩) hHeld ?_ ?_
     rotate_left
     ·rintro w' ⟨s0,s1,s2⟩
      go_simp
      with_reducible rfl
     rotate_left
     ·simp only [Act.put,lS,i64_w,i32_w]
      rfl
     refine one_ (i:=3) (N:=some 26) #[true,true,true,true,true,true,true,false,false,false] rfl rfl (by kernel_rfl) (by decide) (fun K hK=>?_)
     refine goes_ Try.func42 (by kernel_rfl) rfl #[.slice (some ad) l0.length c0,.func (.func 43) #[] #[]] (by rfl) rfl rfl (by simp only [List.map_toArray,List.map_cons,List.map_nil];rfl) ?_
     refine (HMIN.out _ hHeld.2.2).mono ?_
     rintro e w3 ⟨rfl,hk3⟩
     refine ⟨_,rfl,?_⟩
     refine hK.out _ _ ⟨(hk3.cell (World.block_lt_of_cell? _ _ hHeld.1)).trans hHeld.1,(hk3.cell (World.block_lt_of_cell? _ _ hHeld.2.1)).trans hHeld.2.1,below_step hHeld.2.2 hk3⟩ (fun hHeld=>?_)
     clear hK K
     refine norm_ (a':=?_) ?_ ?_
     rotate_left
     ·show Act.put _ (some 26) _=_
      simp only [Act.put,lS,i64_w,i32_w]
      rfl
     refine pure_ (i:=7) (N:=some 30) (v:=?_) (a':=?_) #[true,true,true,true,true,true,true,true,false,false] rfl rfl (by kernel_rfl) (fun _ _ _ h=>h) (Or.inl ⟨by rfl,?_⟩) ?_ ?_
     rotate_left
     ·intro w'
      go_simp
      with_reducible rfl
     rotate_left
     ·simp only [Act.put,lS,i64_w,i32_w]
      rfl
     refine pure_ (i:=8) (N:=some 31) (v:=?_) (a':=?_) #[true,true,true,true,true,true,true,true,true,false] rfl rfl (by kernel_rfl) (fun _ _ _ h=>h) (Or.inl ⟨by rfl,?_⟩) ?_ ?_
     rotate_left
     ·intro w'
      go_simp
      with_reducible rfl
     rotate_left
     ·simp only [Act.put,lS,i64_w,i32_w]
      rfl
     refine pure_ (i:=9) (N:=some 2) (v:=?_) (a':=?_) #[true,true,true,true,true,true,true,true,true,true] rfl rfl (by kernel_rfl) (fun _ _ _ h=>h) (Or.inl ⟨by rfl,?_⟩) ?_ ?_
     rotate_left
     ·intro w'
      go_simp
      with_reducible rfl
     rotate_left
     ·simp only [Act.put,lS,i64_w,i32_w]
      rfl
     refine done_ (by kernel_rfl) ?_
     have HB3:=aK hHeld.2.2
     go_wp2
     go_ret
     exact ⟨by rw [← hx];rfl,HB3.out⟩
def pen_ValidLine.f (l0:List (S31)):Option (Bool):=if (l0.length:Int)≥1 then (if (l0.length:Int)≤60000 then ((flat_ArePoints.f l0).bind fun t170=>(some t170)) else (some false)) else (some false)
set_option maxHeartbeats 8000000 in
theorem pen_ValidLine.calls (A0 : Option Addr) (c0 : Nat) (l0 : List (S31)) (r : Bool) (w : World) (hr0 : Kd.C k31 w A0 l0.length l0) (hc0 : l0.length ≤ c0) (h : pen_ValidLine.f l0 = some r) :
  Calls Try.prog 23 #[.slice A0 l0.length c0] w fun e w'=>e = .returned (.bool r)∧Below w.heap.size w w':=by
 have HR0:=aK hr0
 have HC0:=aK hc0
 clear hr0 hc0
 have HB:=aK (Below.refl w.heap.size w)
 have H:(if (l0.length:Int)≥1 then (if (l0.length:Int)≤60000 then ((flat_ArePoints.f l0).bind fun t170=>(some t170)) else (some false)) else (some false))=some r:=h
 clear h
 by_cases c2:(l0.length:Int)≥1
 ·rw [if_pos c2] at H
  have c2b0:decide (1≤(l0.length:Int))=true:=decide_eq_true c2
  have c2b1:decide (1≤l0.length)=true:=decide_eq_true (by omega)
  clear c2
  by_cases c3:(l0.length:Int)≤60000
  ·rw [if_pos c3] at H
   have c3b0:decide ((l0.length:Int)≤60000)=true:=decide_eq_true c3
   have c3b1:decide (l0.length≤60000)=true:=decide_eq_true (by omega)
   clear c3
   replace H:=Option.bind_eq_some_iff.mp H
   obtain ⟨t170,A40,H⟩:=H
   replace H:(some t170)=some r:=H
   have A4:=aK A40
   clear A40
   obtain rfl:=Option.some.inj H
   go_enter Try.func23,Try.ntmps23
   go_wp2_with (go_at_call 40;(with_reducible refine (flat_ArePoints.calls _ _ l0 t170 _ ?side1 ?side2 A4.out).mono ?_);(case side1=>repeat (first|exact HR0.out|(with_reducible refine Kd.C_alloc ?_ _)|(with_reducible refine Kd.C_drewN ?_ _)|(with_reducible refine Kd.C_drew ?_)));(case side2=>exact HC0.out);rintro e w5 ⟨rfl,hb⟩;have n0_:=aK (below_step (by repeat (first|(with_reducible first|exact HB.out|apply below_alloc|apply pw_below_drewN|apply below_drew1)|exact HB.out)) hb);clear HB;have HB:=n0_;clear n0_;(try clear hb);(try clear hb2);(try clear hk);(try clear hi))
   go_ret
   exact ⟨by first|rfl|(simp [errW_none,errW_some] <;> rfl)|(simp [*,errW_none,errW_some] <;> rfl),by repeat (first|(with_reducible first|exact HB.out|apply below_alloc|apply pw_below_drewN|apply below_drew1)|exact HB.out)⟩
  ·rw [if_neg c3] at H
   have c3b0:decide ((l0.length:Int)≤60000)=false:=decide_eq_false c3
   have c3b1:decide (l0.length≤60000)=false:=decide_eq_false (by omega)
   clear c3
   obtain rfl:=Option.some.inj H
   go_enter Try.func23,Try.ntmps23
   go_wp2
   go_ret
   exact ⟨by first|rfl|(simp [errW_none,errW_some] <;> rfl)|(simp [*,errW_none,errW_some] <;> rfl),by repeat (first|(with_reducible first|exact HB.out|apply below_alloc|apply pw_below_drewN|apply below_drew1)|exact HB.out)⟩
 ·rw [if_neg c2] at H
  have c2b0:decide (1≤(l0.length:Int))=false:=decide_eq_false c2
  have c2b1:decide (1≤l0.length)=false:=decide_eq_false (by omega)
  clear c2
  obtain rfl:=Option.some.inj H
  go_enter Try.func23,Try.ntmps23
  go_wp2
  go_ret
  exact ⟨by first|rfl|(simp [errW_none,errW_some] <;> rfl)|(simp [*,errW_none,errW_some] <;> rfl),by repeat (first|(with_reducible first|exact HB.out|apply below_alloc|apply pw_below_drewN|apply below_drew1)|exact HB.out)⟩
def wind_Edge_At.f (a0_0:Int) (a0_1:Int) (a0_2:Int) (a0_3:Int) (a1:Int):Option (Int):=if (wrap64 (a0_3-a0_1))<0 then (if (wrap64 (-(wrap64 (a0_3-a0_1))))=0 then (none) else (if (Int.tmod (wrap64 (-(wrap64 ((wrap64 (a0_2-a0_0))*(wrap64 (a1-a0_1)))))) (wrap64 (-(wrap64 (a0_3-a0_1)))))<0 then (some (wrap64 (a0_0+(wrap64 ((wrap64 (Int.tdiv (wrap64 (-(wrap64 ((wrap64 (a0_2-a0_0))*(wrap64 (a1-a0_1)))))) (wrap64 (-(wrap64 (a0_3-a0_1))))))-1))))) else (some (wrap64 (a0_0+(wrap64 (Int.tdiv (wrap64 (-(wrap64 ((wrap64 (a0_2-a0_0))*(wrap64 (a1-a0_1)))))) (wrap64 (-(wrap64 (a0_3-a0_1))))))))))) else (if (wrap64 (a0_3-a0_1))=0 then (none) else (if (Int.tmod (wrap64 ((wrap64 (a0_2-a0_0))*(wrap64 (a1-a0_1)))) (wrap64 (a0_3-a0_1)))<0 then (some (wrap64 (a0_0+(wrap64 ((wrap64 (Int.tdiv (wrap64 ((wrap64 (a0_2-a0_0))*(wrap64 (a1-a0_1)))) (wrap64 (a0_3-a0_1))))-1))))) else (some (wrap64 (a0_0+(wrap64 (Int.tdiv (wrap64 ((wrap64 (a0_2-a0_0))*(wrap64 (a1-a0_1)))) (wrap64 (a0_3-a0_1)))))))))
set_option maxHeartbeats 8000000 in
theorem wind_Edge_At.calls (a0_0 : Int) (a0_1 : Int) (a0_2 : Int) (a0_3 : Int) (a1 : Int) (r : Int) (w : World) (h : wind_Edge_At.f a0_0 a0_1 a0_2 a0_3 a1 = some r) :
  Calls Try.prog 49 #[.agg #[.int .i64 a0_0,.int .i64 a0_1,.int .i64 a0_2,.int .i64 a0_3],.int .i64 a1] w fun e w'=>e = .returned (.int .i64 r)∧Below w.heap.size w w':=by
 have hu51:=Try.underlying51
 have HB:=aK (Below.refl w.heap.size w)
 have H:(if (wrap64 (a0_3-a0_1))<0 then (if (wrap64 (-(wrap64 (a0_3-a0_1))))=0 then (none) else (if (Int.tmod (wrap64 (-(wrap64 ((wrap64 (a0_2-a0_0))*(wrap64 (a1-a0_1)))))) (wrap64 (-(wrap64 (a0_3-a0_1)))))<0 then (some (wrap64 (a0_0+(wrap64 ((wrap64 (Int.tdiv (wrap64 (-(wrap64 ((wrap64 (a0_2-a0_0))*(wrap64 (a1-a0_1)))))) (wrap64 (-(wrap64 (a0_3-a0_1))))))-1))))) else (some (wrap64 (a0_0+(wrap64 (Int.tdiv (wrap64 (-(wrap64 ((wrap64 (a0_2-a0_0))*(wrap64 (a1-a0_1)))))) (wrap64 (-(wrap64 (a0_3-a0_1))))))))))) else (if (wrap64 (a0_3-a0_1))=0 then (none) else (if (Int.tmod (wrap64 ((wrap64 (a0_2-a0_0))*(wrap64 (a1-a0_1)))) (wrap64 (a0_3-a0_1)))<0 then (some (wrap64 (a0_0+(wrap64 ((wrap64 (Int.tdiv (wrap64 ((wrap64 (a0_2-a0_0))*(wrap64 (a1-a0_1)))) (wrap64 (a0_3-a0_1))))-1))))) else (some (wrap64 (a0_0+(wrap64 (Int.tdiv (wrap64 ((wrap64 (a0_2-a0_0))*(wrap64 (a1-a0_1)))) (wrap64 (a0_3-a0_1))))))))))=some r:=h
 clear h
 by_cases c3:(wrap64 (a0_3-a0_1))<0
 ·rw [if_pos c3] at H
  have c3b0:decide ((wrap64 (a0_3-a0_1))<0)=true:=decide_eq_true c3
  clear c3
  by_cases c4:(wrap64 (-(wrap64 (a0_3-a0_1))))=0
  ·rw [if_pos c4] at H
   exact absurd H (by simp)
  ·rw [if_neg c4] at H
   have c4b0:((wrap64 (-(wrap64 (a0_3-a0_1)))) == 0)=false:=beq_eq_false_iff_ne.mpr c4
   have c4b1:((wrap64 (-(wrap64 (a0_3-a0_1)))) != 0)=true:=bne_iff_ne.mpr c4
   by_cases c5:(Int.tmod (wrap64 (-(wrap64 ((wrap64 (a0_2-a0_0))*(wrap64 (a1-a0_1)))))) (wrap64 (-(wrap64 (a0_3-a0_1)))))<0
   ·rw [if_pos c5] at H
    have c5b0:decide ((Int.tmod (wrap64 (-(wrap64 ((wrap64 (a0_2-a0_0))*(wrap64 (a1-a0_1)))))) (wrap64 (-(wrap64 (a0_3-a0_1)))))<0)=true:=decide_eq_true c5
    clear c5
    obtain rfl:=Option.some.inj H
    go_enter Try.func49,Try.ntmps49
    go_wp2_with ((with_reducible refine gate_dst (N:=2) rfl ?_);refine box_event ?hg (N:=2) ?hd (cs:=#[.int .i64 a0_0,.int .i64 a0_1,.int .i64 a0_2,.int .i64 a0_3]) (t:=51) ?hr ?_;(case hd=>rfl);(case hg=>rfl);(case hr=>first|(go_simp;done)|(go_simp;rfl));intro gb171 hg w6 hbox hb;have n0_:=aK (below_step (by repeat (first|(with_reducible first|exact HB.out|apply below_alloc|apply pw_below_drewN|apply below_drew1)|exact HB.out)) hb);have n1_:=aK (hbox);have n2_:=aK ((by rw [hg];exact (below_size (by repeat (first|(with_reducible first|exact HB.out|apply below_alloc|apply pw_below_drewN|apply below_drew1)|exact HB.out))):w.heap.size≤gb171));have n3_:=n2_;clear HB;have HB:=n0_;have BK171:=n1_;have GW171:=n2_;have GE171:=n3_;clear n0_ n1_ n2_ n3_;clear hb hbox hg;have hcz7_0:w6.cell? ⟨gb171,0,none⟩=some (.int .i64 a0_0):=(blk_cell BK171.out 0).trans rfl;have hcz7_1:w6.cell? ⟨gb171,1,none⟩=some (.int .i64 a0_1):=(blk_cell BK171.out 1).trans rfl;have hcz7_2:w6.cell? ⟨gb171,2,none⟩=some (.int .i64 a0_2):=(blk_cell BK171.out 2).trans rfl;have hcz7_3:w6.cell? ⟨gb171,3,none⟩=some (.int .i64 a0_3):=(blk_cell BK171.out 3).trans rfl;have hfz7_0:=blk_frozen BK171.out 0;have hfz7_1:=blk_frozen BK171.out 1;have hfz7_2:=blk_frozen BK171.out 2;have hfz7_3:=blk_frozen BK171.out 3)
    go_ret
    exact ⟨by first|rfl|(simp [errW_none,errW_some] <;> rfl)|(simp [*,errW_none,errW_some] <;> rfl),by repeat (first|(with_reducible first|exact HB.out|apply below_alloc|apply pw_below_drewN|apply below_drew1|refine below_set ?_ GE171.out)|exact HB.out)⟩
   ·rw [if_neg c5] at H
    have c5b0:decide ((Int.tmod (wrap64 (-(wrap64 ((wrap64 (a0_2-a0_0))*(wrap64 (a1-a0_1)))))) (wrap64 (-(wrap64 (a0_3-a0_1)))))<0)=false:=decide_eq_false c5
    clear c5
    obtain rfl:=Option.some.inj H
    go_enter Try.func49,Try.ntmps49
    go_wp2_with ((with_reducible refine gate_dst (N:=2) rfl ?_);refine box_event ?hg (N:=2) ?hd (cs:=#[.int .i64 a0_0,.int .i64 a0_1,.int .i64 a0_2,.int .i64 a0_3]) (t:=51) ?hr ?_;(case hd=>rfl);(case hg=>rfl);(case hr=>first|(go_simp;done)|(go_simp;rfl));intro gb171 hg w8 hbox hb;have n0_:=aK (below_step (by repeat (first|(with_reducible first|exact HB.out|apply below_alloc|apply pw_below_drewN|apply below_drew1)|exact HB.out)) hb);have n1_:=aK (hbox);have n2_:=aK ((by rw [hg];exact (below_size (by repeat (first|(with_reducible first|exact HB.out|apply below_alloc|apply pw_below_drewN|apply below_drew1)|exact HB.out))):w.heap.size≤gb171));have n3_:=n2_;clear HB;have HB:=n0_;have BK171:=n1_;have GW171:=n2_;have GE171:=n3_;clear n0_ n1_ n2_ n3_;clear hb hbox hg;have hcz9_0:w8.cell? ⟨gb171,0,none⟩=some (.int .i64 a0_0):=(blk_cell BK171.out 0).trans rfl;have hcz9_1:w8.cell? ⟨gb171,1,none⟩=some (.int .i64 a0_1):=(blk_cell BK171.out 1).trans rfl;have hcz9_2:w8.cell? ⟨gb171,2,none⟩=some (.int .i64 a0_2):=(blk_cell BK171.out 2).trans rfl;have hcz9_3:w8.cell? ⟨gb171,3,none⟩=some (.int .i64 a0_3):=(blk_cell BK171.out 3).trans rfl;have hfz9_0:=blk_frozen BK171.out 0;have hfz9_1:=blk_frozen BK171.out 1;have hfz9_2:=blk_frozen BK171.out 2;have hfz9_3:=blk_frozen BK171.out 3)
    go_ret
    exact ⟨by first|rfl|(simp [errW_none,errW_some] <;> rfl)|(simp [*,errW_none,errW_some] <;> rfl),by repeat (first|(with_reducible first|exact HB.out|apply below_alloc|apply pw_below_drewN|apply below_drew1|refine below_set ?_ GE171.out)|exact HB.out)⟩
 ·rw [if_neg c3] at H
  have c3b0:decide ((wrap64 (a0_3-a0_1))<0)=false:=decide_eq_false c3
  clear c3
  by_cases c10:(wrap64 (a0_3-a0_1))=0
  ·rw [if_pos c10] at H
   exact absurd H (by simp)
  ·rw [if_neg c10] at H
   have c10b0:((wrap64 (a0_3-a0_1)) == 0)=false:=beq_eq_false_iff_ne.mpr c10
   have c10b1:((wrap64 (a0_3-a0_1)) != 0)=true:=bne_iff_ne.mpr c10
   by_cases c11:(Int.tmod (wrap64 ((wrap64 (a0_2-a0_0))*(wrap64 (a1-a0_1)))) (wrap64 (a0_3-a0_1)))<0
   ·rw [if_pos c11] at H
    have c11b0:decide ((Int.tmod (wrap64 ((wrap64 (a0_2-a0_0))*(wrap64 (a1-a0_1)))) (wrap64 (a0_3-a0_1)))<0)=true:=decide_eq_true c11
    clear c11
    obtain rfl:=Option.some.inj H
    go_enter Try.func49,Try.ntmps49
    go_wp2_with ((with_reducible refine gate_dst (N:=2) rfl ?_);refine box_event ?hg (N:=2) ?hd (cs:=#[.int .i64 a0_0,.int .i64 a0_1,.int .i64 a0_2,.int .i64 a0_3]) (t:=51) ?hr ?_;(case hd=>rfl);(case hg=>rfl);(case hr=>first|(go_simp;done)|(go_simp;rfl));intro gb171 hg w12 hbox hb;have n0_:=aK (below_step (by repeat (first|(with_reducible first|exact HB.out|apply below_alloc|apply pw_below_drewN|apply below_drew1)|exact HB.out)) hb);have n1_:=aK (hbox);have n2_:=aK ((by rw [hg];exact (below_size (by repeat (first|(with_reducible first|exact HB.out|apply below_alloc|apply pw_below_drewN|apply below_drew1)|exact HB.out))):w.heap.size≤gb171));have n3_:=n2_;clear HB;have HB:=n0_;have BK171:=n1_;have GW171:=n2_;have GE171:=n3_;clear n0_ n1_ n2_ n3_;clear hb hbox hg;have hcz13_0:w12.cell? ⟨gb171,0,none⟩=some (.int .i64 a0_0):=(blk_cell BK171.out 0).trans rfl;have hcz13_1:w12.cell? ⟨gb171,1,none⟩=some (.int .i64 a0_1):=(blk_cell BK171.out 1).trans rfl;have hcz13_2:w12.cell? ⟨gb171,2,none⟩=some (.int .i64 a0_2):=(blk_cell BK171.out 2).trans rfl;have hcz13_3:w12.cell? ⟨gb171,3,none⟩=some (.int .i64 a0_3):=(blk_cell BK171.out 3).trans rfl;have hfz13_0:=blk_frozen BK171.out 0;have hfz13_1:=blk_frozen BK171.out 1;have hfz13_2:=blk_frozen BK171.out 2;have hfz13_3:=blk_frozen BK171.out 3)
    go_ret
    exact ⟨by first|rfl|(simp [errW_none,errW_some] <;> rfl)|(simp [*,errW_none,errW_some] <;> rfl),by repeat (first|(with_reducible first|exact HB.out|apply below_alloc|apply pw_below_drewN|apply below_drew1|refine below_set ?_ GE171.out)|exact HB.out)⟩
   ·rw [if_neg c11] at H
    have c11b0:decide ((Int.tmod (wrap64 ((wrap64 (a0_2-a0_0))*(wrap64 (a1-a0_1)))) (wrap64 (a0_3-a0_1)))<0)=false:=decide_eq_false c11
    clear c11
    obtain rfl:=Option.some.inj H
    go_enter Try.func49,Try.ntmps49
    go_wp2_with ((with_reducible refine gate_dst (N:=2) rfl ?_);refine box_event ?hg (N:=2) ?hd (cs:=#[.int .i64 a0_0,.int .i64 a0_1,.int .i64 a0_2,.int .i64 a0_3]) (t:=51) ?hr ?_;(case hd=>rfl);(case hg=>rfl);(case hr=>first|(go_simp;done)|(go_simp;rfl));intro gb171 hg w14 hbox hb;have n0_:=aK (below_step (by repeat (first|(with_reducible first|exact HB.out|apply below_alloc|apply pw_below_drewN|apply below_drew1)|exact HB.out)) hb);have n1_:=aK (hbox);have n2_:=aK ((by rw [hg];exact (below_size (by repeat (first|(with_reducible first|exact HB.out|apply below_alloc|apply pw_below_drewN|apply below_drew1)|exact HB.out))):w.heap.size≤gb171));have n3_:=n2_;clear HB;have HB:=n0_;have BK171:=n1_;have GW171:=n2_;have GE171:=n3_;clear n0_ n1_ n2_ n3_;clear hb hbox hg;have hcz15_0:w14.cell? ⟨gb171,0,none⟩=some (.int .i64 a0_0):=(blk_cell BK171.out 0).trans rfl;have hcz15_1:w14.cell? ⟨gb171,1,none⟩=some (.int .i64 a0_1):=(blk_cell BK171.out 1).trans rfl;have hcz15_2:w14.cell? ⟨gb171,2,none⟩=some (.int .i64 a0_2):=(blk_cell BK171.out 2).trans rfl;have hcz15_3:w14.cell? ⟨gb171,3,none⟩=some (.int .i64 a0_3):=(blk_cell BK171.out 3).trans rfl;have hfz15_0:=blk_frozen BK171.out 0;have hfz15_1:=blk_frozen BK171.out 1;have hfz15_2:=blk_frozen BK171.out 2;have hfz15_3:=blk_frozen BK171.out 3)
    go_ret
    exact ⟨by first|rfl|(simp [errW_none,errW_some] <;> rfl)|(simp [*,errW_none,errW_some] <;> rfl),by repeat (first|(with_reducible first|exact HB.out|apply below_alloc|apply pw_below_drewN|apply below_drew1|refine below_set ?_ GE171.out)|exact HB.out)⟩
def wind_Edge_Way.j0 : Nat → Int → Bool → Int → Int → Int → Int → Option (Int)
 | 0,_,_,_,_,_,_=>none
 | k+1,x1,x5,x173000,x173001,x173002,x173003=>if x5=true then (some 1) else (if x173003≤x1 then (if x1<x173001 then (some (-1)) else (some 0)) else (some 0))
def wind_Edge_Way.f (k:Nat) (a0_0:Int) (a0_1:Int) (a0_2:Int) (a0_3:Int) (a1:Int):Option (Int):=if a0_1≤a1 then (wind_Edge_Way.j0 k a1 (decide (a1<a0_3)) a0_0 a0_1 a0_2 a0_3) else (wind_Edge_Way.j0 k a1 false a0_0 a0_1 a0_2 a0_3)
theorem wind_Edge_Way.mono_l : ∀ k, (∀ y0 y1 y2 y3 y4 y5, LeO (wind_Edge_Way.j0 k y0 y1 y2 y3 y4 y5) (wind_Edge_Way.j0 (k + 1) y0 y1 y2 y3 y4 y5))
 | 0=>fun _ _ _ _ _ _ r h=>by simp [wind_Edge_Way.j0] at h
 | k+1=>by
  have ih0:=wind_Edge_Way.mono_l k
  ·intro y0 y1 y2 y3 y4 y5
   unfold wind_Edge_Way.j0
   repeat' first
   | (with_reducible exact ih0 _ _ _ _ _ _)
   | (with_reducible exact LeO.refl _)
   | (with_reducible exact LeO.none _)
   | (with_reducible refine LeO.ite ?_ ?_)
   | (with_reducible refine LeO.bind ?_ (fun _=>?_))
   | exact ih0 _ _ _ _ _ _
   | exact LeO.none _
   | refine LeO.ite ?_ ?_
   | refine LeO.bind ?_ (fun _=>?_)
theorem wind_Edge_Way.mono : ∀ a0 a1 a2 a3 a4 k,LeO (wind_Edge_Way.f k a0 a1 a2 a3 a4) (wind_Edge_Way.f (k+1) a0 a1 a2 a3 a4):=by
 intro a0 a1 a2 a3 a4 k
 have ih0:=wind_Edge_Way.mono_l k
 unfold wind_Edge_Way.f
 repeat' first
   | (with_reducible exact ih0 _ _ _ _ _ _)
   | (with_reducible exact LeO.refl _)
   | (with_reducible exact LeO.none _)
   | (with_reducible refine LeO.ite ?_ ?_)
   | (with_reducible refine LeO.bind ?_ (fun _=>?_))
   | exact ih0 _ _ _ _ _ _
   | exact LeO.none _
   | refine LeO.ite ?_ ?_
   | refine LeO.bind ?_ (fun _=>?_)
set_option maxHeartbeats 8000000 in
theorem wind_Edge_Way.calls (k : Nat) (a0_0 : Int) (a0_1 : Int) (a0_2 : Int) (a0_3 : Int) (a1 : Int) (r : Int) (w : World) (h : wind_Edge_Way.f k a0_0 a0_1 a0_2 a0_3 a1 = some r) :
  Calls Try.prog 35 #[.agg #[.int .i64 a0_0,.int .i64 a0_1,.int .i64 a0_2,.int .i64 a0_3],.int .i64 a1] w fun e w'=>e = .returned (.int .i64 r)∧Below w.heap.size w w':=by
 have hu51:=Try.underlying51
 have HB:=aK (Below.refl w.heap.size w)
 have H:(if a0_1≤a1 then (wind_Edge_Way.j0 k a1 (decide (a1<a0_3)) a0_0 a0_1 a0_2 a0_3) else (wind_Edge_Way.j0 k a1 false a0_0 a0_1 a0_2 a0_3))=some r:=h
 clear h
 have HC3:=aK H
 clear H
 go_enter Try.func35,Try.ntmps35
 go_upto_region 1 with ((with_reducible refine gate_dst (N:=2) rfl ?_);refine box_event ?hg (N:=2) ?hd (cs:=#[.int .i64 a0_0,.int .i64 a0_1,.int .i64 a0_2,.int .i64 a0_3]) (t:=51) ?hr ?_;(case hd=>rfl);(case hg=>rfl);(case hr=>first|(go_simp;done)|(go_simp;rfl));intro gb172 hg w4 hbox hb;have n0_:=aK (below_step (by repeat (first|(with_reducible first|exact HB.out|apply below_alloc|apply pw_below_drewN|apply below_drew1)|exact HB.out)) hb);have n1_:=aK (hbox);have n2_:=aK ((by rw [hg];exact (below_size (by repeat (first|(with_reducible first|exact HB.out|apply below_alloc|apply pw_below_drewN|apply below_drew1)|exact HB.out))):w.heap.size≤gb172));have n3_:=n2_;clear HB;have HB:=n0_;have BK172:=n1_;have GW172:=n2_;have GE172:=n3_;clear n0_ n1_ n2_ n3_;clear hb hbox hg)
 (try simp only [Act.put,lS])
 go_cut [5] (fun v5 wc=>∃ (kq:Nat) (x5_2:Bool),v5 = .bool x5_2∧Aside0 (wind_Edge_Way.j0 kq a1 x5_2 a0_0 a0_1 a0_2 a0_3=some r)∧Aside0 (kq≤k)∧Aside0 (wc.heap[gb172]?=some (.cells #[.int .i64 a0_0,.int .i64 a0_1,.int .i64 a0_2,.int .i64 a0_3] 51 (0,0)))∧Aside0 (Below w.heap.size w wc))
 case first =>
  have H:=HC3.out
  clear HC3
  by_cases c5:a0_1≤a1
  ·rw [if_pos c5] at H
   have c5b0:decide (a0_1≤a1)=true:=decide_eq_true c5
   clear c5
   (first|rw [c5b0]|(simp only [i64_w,i32_w];rw [c5b0])|skip)
   have H':=aK H
   clear H
   have hcz6_0:w4.cell? ⟨gb172,0,none⟩=some (.int .i64 a0_0):=(blk_cell BK172.out 0).trans rfl
   have hcz6_1:w4.cell? ⟨gb172,1,none⟩=some (.int .i64 a0_1):=(blk_cell BK172.out 1).trans rfl
   have hcz6_2:w4.cell? ⟨gb172,2,none⟩=some (.int .i64 a0_2):=(blk_cell BK172.out 2).trans rfl
   have hcz6_3:w4.cell? ⟨gb172,3,none⟩=some (.int .i64 a0_3):=(blk_cell BK172.out 3).trans rfl
   have hfz6_0:=blk_frozen BK172.out 0
   have hfz6_1:=blk_frozen BK172.out 1
   have hfz6_2:=blk_frozen BK172.out 2
   have hfz6_3:=blk_frozen BK172.out 3
   go_wp2
   go_meet
   case rel=>exact ⟨_,(decide (a1<a0_3)),(by first|rfl|(simp;done)|(simp [*];done)),H',⟨by first|omega|exact Nat.le_refl _⟩,⟨by (with_reducible repeat (first|refine blk_drewN ?_ _|refine blk_drew ?_|refine blk_alloc ?_ _));exact BK172.out⟩,⟨by repeat (first|(with_reducible first|exact HB.out|apply below_alloc|apply pw_below_drewN|apply below_drew1|refine below_set ?_ GE172.out)|exact HB.out)⟩⟩
  ·rw [if_neg c5] at H
   have c5b0:decide (a0_1≤a1)=false:=decide_eq_false c5
   clear c5
   (first|rw [c5b0]|(simp only [i64_w,i32_w];rw [c5b0])|skip)
   have H':=aK H
   clear H
   have hcz7_0:w4.cell? ⟨gb172,0,none⟩=some (.int .i64 a0_0):=(blk_cell BK172.out 0).trans rfl
   have hcz7_1:w4.cell? ⟨gb172,1,none⟩=some (.int .i64 a0_1):=(blk_cell BK172.out 1).trans rfl
   have hcz7_2:w4.cell? ⟨gb172,2,none⟩=some (.int .i64 a0_2):=(blk_cell BK172.out 2).trans rfl
   have hcz7_3:w4.cell? ⟨gb172,3,none⟩=some (.int .i64 a0_3):=(blk_cell BK172.out 3).trans rfl
   have hfz7_0:=blk_frozen BK172.out 0
   have hfz7_1:=blk_frozen BK172.out 1
   have hfz7_2:=blk_frozen BK172.out 2
   have hfz7_3:=blk_frozen BK172.out 3
   go_wp2
   go_meet
   case rel=>exact ⟨_,(false),(by first|rfl|(simp;done)|(simp [*];done)),H',⟨by first|omega|exact Nat.le_refl _⟩,⟨by (with_reducible repeat (first|refine blk_drewN ?_ _|refine blk_drew ?_|refine blk_alloc ?_ _));exact BK172.out⟩,⟨by repeat (first|(with_reducible first|exact HB.out|apply below_alloc|apply pw_below_drewN|apply below_drew1|refine below_set ?_ GE172.out)|exact HB.out)⟩⟩
 case rest =>
  clear HC3
  try clear p2
  try clear c3
  try clear c5
  try clear c5b0
  try clear hcz6_0
  try clear hcz6_1
  try clear hcz6_2
  try clear hcz6_3
  try clear hcz7_0
  try clear hcz7_1
  try clear hcz7_2
  try clear hcz7_3
  try clear hfz6_0
  try clear hfz6_1
  try clear hfz6_2
  try clear hfz6_3
  try clear hfz7_0
  try clear hfz7_1
  try clear hfz7_2
  try clear hfz7_3
  obtain ⟨kq,x5_2,rfl,HA,HJ2,BK172,HB⟩:=hcut
  cases kq with
  | zero=>exact absurd HA.out (by simp [wind_Edge_Way.j0])
  | succ kj2 =>
   have H:=HA.out
   clear HA
   simp only [wind_Edge_Way.j0] at H
   by_cases c8:x5_2=true
   ·subst c8
    have H1:(some 1)=some r:=by rw [if_pos rfl] at H;exact H
    clear H
    have H:=H1
    clear H1
    obtain rfl:=Option.some.inj H
    go_wp2
    go_ret
    exact ⟨by first|rfl|(simp [errW_none,errW_some] <;> rfl)|(simp [*,errW_none,errW_some] <;> rfl),by repeat (first|(with_reducible first|exact HB.out|apply below_alloc|apply pw_below_drewN|apply below_drew1|refine below_set ?_ GE172.out)|exact HB.out)⟩
   ·replace c8:=Bool.eq_false_iff.mpr c8
    subst c8
    have H1:(if a0_3≤a1 then (if a1<a0_1 then (some (-1)) else (some 0)) else (some 0))=some r:=by rw [if_neg (show ¬ (false=true) by decide)] at H;exact H
    clear H
    have H:=H1
    clear H1
    by_cases c9:a0_3≤a1
    ·rw [if_pos c9] at H
     have c9b0:decide (a0_3≤a1)=true:=decide_eq_true c9
     clear c9
     by_cases c10:a1<a0_1
     ·rw [if_pos c10] at H
      have c10b0:decide (a1<a0_1)=true:=decide_eq_true c10
      clear c10
      obtain rfl:=Option.some.inj H
      have hcz11_0:wc.cell? ⟨gb172,0,none⟩=some (.int .i64 a0_0):=(blk_cell BK172.out 0).trans rfl
      have hcz11_1:wc.cell? ⟨gb172,1,none⟩=some (.int .i64 a0_1):=(blk_cell BK172.out 1).trans rfl
      have hcz11_2:wc.cell? ⟨gb172,2,none⟩=some (.int .i64 a0_2):=(blk_cell BK172.out 2).trans rfl
      have hcz11_3:wc.cell? ⟨gb172,3,none⟩=some (.int .i64 a0_3):=(blk_cell BK172.out 3).trans rfl
      have hfz11_0:=blk_frozen BK172.out 0
      have hfz11_1:=blk_frozen BK172.out 1
      have hfz11_2:=blk_frozen BK172.out 2
      have hfz11_3:=blk_frozen BK172.out 3
      go_wp2
      go_ret
      exact ⟨by first|rfl|(simp [errW_none,errW_some] <;> rfl)|(simp [*,errW_none,errW_some] <;> rfl),by repeat (first|(with_reducible first|exact HB.out|apply below_alloc|apply pw_below_drewN|apply below_drew1|refine below_set ?_ GE172.out)|exact HB.out)⟩
     ·rw [if_neg c10] at H
      have c10b0:decide (a1<a0_1)=false:=decide_eq_false c10
      clear c10
      obtain rfl:=Option.some.inj H
      have hcz12_0:wc.cell? ⟨gb172,0,none⟩=some (.int .i64 a0_0):=(blk_cell BK172.out 0).trans rfl
      have hcz12_1:wc.cell? ⟨gb172,1,none⟩=some (.int .i64 a0_1):=(blk_cell BK172.out 1).trans rfl
      have hcz12_2:wc.cell? ⟨gb172,2,none⟩=some (.int .i64 a0_2):=(blk_cell BK172.out 2).trans rfl
      have hcz12_3:wc.cell? ⟨gb172,3,none⟩=some (.int .i64 a0_3):=(blk_cell BK172.out 3).trans rfl
      have hfz12_0:=blk_frozen BK172.out 0
      have hfz12_1:=blk_frozen BK172.out 1
      have hfz12_2:=blk_frozen BK172.out 2
      have hfz12_3:=blk_frozen BK172.out 3
      go_wp2
      go_ret
      exact ⟨by first|rfl|(simp [errW_none,errW_some] <;> rfl)|(simp [*,errW_none,errW_some] <;> rfl),by repeat (first|(with_reducible first|exact HB.out|apply below_alloc|apply pw_below_drewN|apply below_drew1|refine below_set ?_ GE172.out)|exact HB.out)⟩
    ·rw [if_neg c9] at H
     have c9b0:decide (a0_3≤a1)=false:=decide_eq_false c9
     clear c9
     obtain rfl:=Option.some.inj H
     have hcz13_0:wc.cell? ⟨gb172,0,none⟩=some (.int .i64 a0_0):=(blk_cell BK172.out 0).trans rfl
     have hcz13_1:wc.cell? ⟨gb172,1,none⟩=some (.int .i64 a0_1):=(blk_cell BK172.out 1).trans rfl
     have hcz13_2:wc.cell? ⟨gb172,2,none⟩=some (.int .i64 a0_2):=(blk_cell BK172.out 2).trans rfl
     have hcz13_3:wc.cell? ⟨gb172,3,none⟩=some (.int .i64 a0_3):=(blk_cell BK172.out 3).trans rfl
     have hfz13_0:=blk_frozen BK172.out 0
     have hfz13_1:=blk_frozen BK172.out 1
     have hfz13_2:=blk_frozen BK172.out 2
     have hfz13_3:=blk_frozen BK172.out 3
     go_wp2
     go_ret
     exact ⟨by first|rfl|(simp [errW_none,errW_some] <;> rfl)|(simp [*,errW_none,errW_some] <;> rfl),by repeat (first|(with_reducible first|exact HB.out|apply below_alloc|apply pw_below_drewN|apply below_drew1|refine below_set ?_ GE172.out)|exact HB.out)⟩
end Go.Proofs.Ytckjlckhjcbddaa.PH3

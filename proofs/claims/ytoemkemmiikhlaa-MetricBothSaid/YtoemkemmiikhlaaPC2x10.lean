import Derived.Test.YtoemkemmiikhlaaPC2x0
import Derived.Test.YtoemkemmiikhlaaPC2x1
import Derived.Test.YtoemkemmiikhlaaPC2x2
set_option maxRecDepth 100000
namespace Go.Proofs.Ytoemkemmiikhlaa.PC2
open Go.RowKit Go.Proofs.YtoemkemmiikhlaaW.PrintWords Go.Proofs.YtoemkemmiikhlaaW.PrintLast Go.Proofs.YtoemkemmiikhlaaW.PrintMore
attribute [local go_sem] max2_int min2_int max_two min_two max_three min_three max_four min_four
set_option linter.unusedVariables false
set_option linter.unusedSimpArgs false
attribute [local go_sem high] eqA41 eqA46
mutual
def fleuronref27_Same.j0 : Nat → Bool → Int → List (S41) → List (S46) → Int → List (S41) → List (S46) → Option (Bool)
 | 0,_,_,_,_,_,_,_=>none
 | k+1,x29,x134000,x134001,x134002,x135000,x135001,x135002=>if x29=true then (some false) else (fleuronref27_Same.l0 k (x134001.length:Int) 0 x134000 x134001 x134002 x135000 x135001 x135002)
def fleuronref27_Same.l0 : Nat → Int → Int → Int → List (S41) → List (S46) → Int → List (S41) → List (S46) → Option (Bool)
 | 0,_,_,_,_,_,_,_,_=>none
 | k+1,x32,x33,x134000,x134001,x134002,x135000,x135001,x135002=>if x33<x32 then (if 0≤x33 then (if x33<(x134001.length:Int) then (if x33<(x135001.length:Int) then (if (!(((rd_T41 x134001 x33).f0) == ((rd_T41 x135001 x33).f0)) || (!(((rd_T41 x134001 x33).f1) == ((rd_T41 x135001 x33).f1)) || (!(((rd_T41 x134001 x33).f2) == ((rd_T41 x135001 x33).f2)) || (!(((rd_T41 x134001 x33).f3) == ((rd_T41 x135001 x33).f3))))))=true then (some false) else (fleuronref27_Same.l0 k x32 (wrap64 (x33+1)) x134000 x134001 x134002 x135000 x135001 x135002)) else (none)) else (none)) else (none)) else (fleuronref27_Same.l1 k (x134002.length:Int) 0 x134000 x134001 x134002 x135000 x135001 x135002)
def fleuronref27_Same.l1 : Nat → Int → Int → Int → List (S41) → List (S46) → Int → List (S41) → List (S46) → Option (Bool)
 | 0,_,_,_,_,_,_,_,_=>none
 | k+1,x50,x51,x134000,x134001,x134002,x135000,x135001,x135002=>if x51<x50 then (if 0≤x51 then (if x51<(x134002.length:Int) then (if x51<(x135002.length:Int) then (if (!(((rd_T46 x134002 x51).f0) == ((rd_T46 x135002 x51).f0)) || (!(((rd_T46 x134002 x51).f1) == ((rd_T46 x135002 x51).f1)) || (!(((rd_T46 x134002 x51).f2) == ((rd_T46 x135002 x51).f2)) || (!(((rd_T46 x134002 x51).f3) == ((rd_T46 x135002 x51).f3))))))=true then (some false) else (fleuronref27_Same.l1 k x50 (wrap64 (x51+1)) x134000 x134001 x134002 x135000 x135001 x135002)) else (none)) else (none)) else (none)) else (some true)
end
def fleuronref27_Same.f (k:Nat) (a0_0:Int) (l0_1:List (S41)) (l0_2:List (S46)) (a1_0:Int) (l1_1:List (S41)) (l1_2:List (S46)):Option (Bool):=if a0_0=a1_0 then (if (l0_1.length:Int)=(l1_1.length:Int) then (fleuronref27_Same.j0 k ((l0_2.length:Int) != (l1_2.length:Int)) a0_0 l0_1 l0_2 a1_0 l1_1 l1_2) else (fleuronref27_Same.j0 k true a0_0 l0_1 l0_2 a1_0 l1_1 l1_2)) else (fleuronref27_Same.j0 k true a0_0 l0_1 l0_2 a1_0 l1_1 l1_2)
theorem fleuronref27_Same.mono_l : ∀ k, (∀ y0 y1 y2 y3 y4 y5 y6, LeO (fleuronref27_Same.j0 k y0 y1 y2 y3 y4 y5 y6) (fleuronref27_Same.j0 (k + 1) y0 y1 y2 y3 y4 y5 y6)) ∧ (∀ y0 y1 y2 y3 y4 y5 y6 y7, LeO (fleuronref27_Same.l0 k y0 y1 y2 y3 y4 y5 y6 y7) (fleuronref27_Same.l0 (k + 1) y0 y1 y2 y3 y4 y5 y6 y7)) ∧ (∀ y0 y1 y2 y3 y4 y5 y6 y7, LeO (fleuronref27_Same.l1 k y0 y1 y2 y3 y4 y5 y6 y7) (fleuronref27_Same.l1 (k + 1) y0 y1 y2 y3 y4 y5 y6 y7))
 | 0=>⟨fun _ _ _ _ _ _ _ r h=>by simp [fleuronref27_Same.j0] at h,fun _ _ _ _ _ _ _ _ r h=>by simp [fleuronref27_Same.l0] at h,fun _ _ _ _ _ _ _ _ r h=>by simp [fleuronref27_Same.l1] at h⟩
 | k+1=>by
  obtain ⟨ih0,ih1,ih2⟩:=fleuronref27_Same.mono_l k
  refine ⟨?_,?_,?_⟩
  ·intro y0 y1 y2 y3 y4 y5 y6
   unfold fleuronref27_Same.j0
   repeat' first
   | (with_reducible exact ih0 _ _ _ _ _ _ _)
   | (with_reducible exact ih1 _ _ _ _ _ _ _ _)
   | (with_reducible exact ih2 _ _ _ _ _ _ _ _)
   | (with_reducible exact LeO.refl _)
   | (with_reducible exact LeO.none _)
   | (with_reducible refine LeO.ite ?_ ?_)
   | (with_reducible refine LeO.bind ?_ (fun _=>?_))
   | exact ih0 _ _ _ _ _ _ _
   | exact ih1 _ _ _ _ _ _ _ _
   | exact ih2 _ _ _ _ _ _ _ _
   | exact LeO.none _
   | refine LeO.ite ?_ ?_
   | refine LeO.bind ?_ (fun _=>?_)
  ·intro y0 y1 y2 y3 y4 y5 y6 y7
   unfold fleuronref27_Same.l0
   repeat' first
   | (with_reducible exact ih0 _ _ _ _ _ _ _)
   | (with_reducible exact ih1 _ _ _ _ _ _ _ _)
   | (with_reducible exact ih2 _ _ _ _ _ _ _ _)
   | (with_reducible exact LeO.refl _)
   | (with_reducible exact LeO.none _)
   | (with_reducible refine LeO.ite ?_ ?_)
   | (with_reducible refine LeO.bind ?_ (fun _=>?_))
   | exact ih0 _ _ _ _ _ _ _
   | exact ih1 _ _ _ _ _ _ _ _
   | exact ih2 _ _ _ _ _ _ _ _
   | exact LeO.none _
   | refine LeO.ite ?_ ?_
   | refine LeO.bind ?_ (fun _=>?_)
  ·intro y0 y1 y2 y3 y4 y5 y6 y7
   unfold fleuronref27_Same.l1
   repeat' first
   | (with_reducible exact ih0 _ _ _ _ _ _ _)
   | (with_reducible exact ih1 _ _ _ _ _ _ _ _)
   | (with_reducible exact ih2 _ _ _ _ _ _ _ _)
   | (with_reducible exact LeO.refl _)
   | (with_reducible exact LeO.none _)
   | (with_reducible refine LeO.ite ?_ ?_)
   | (with_reducible refine LeO.bind ?_ (fun _=>?_))
   | exact ih0 _ _ _ _ _ _ _
   | exact ih1 _ _ _ _ _ _ _ _
   | exact ih2 _ _ _ _ _ _ _ _
   | exact LeO.none _
   | refine LeO.ite ?_ ?_
   | refine LeO.bind ?_ (fun _=>?_)
theorem fleuronref27_Same.mono : ∀ a0 a1 a2 a3 a4 a5 k,LeO (fleuronref27_Same.f k a0 a1 a2 a3 a4 a5) (fleuronref27_Same.f (k+1) a0 a1 a2 a3 a4 a5):=by
 intro a0 a1 a2 a3 a4 a5 k
 obtain ⟨ih0,ih1,ih2⟩:=fleuronref27_Same.mono_l k
 unfold fleuronref27_Same.f
 repeat' first
   | (with_reducible exact ih0 _ _ _ _ _ _ _)
   | (with_reducible exact ih1 _ _ _ _ _ _ _ _)
   | (with_reducible exact ih2 _ _ _ _ _ _ _ _)
   | (with_reducible exact LeO.refl _)
   | (with_reducible exact LeO.none _)
   | (with_reducible refine LeO.ite ?_ ?_)
   | (with_reducible refine LeO.bind ?_ (fun _=>?_))
   | exact ih0 _ _ _ _ _ _ _
   | exact ih1 _ _ _ _ _ _ _ _
   | exact ih2 _ _ _ _ _ _ _ _
   | exact LeO.none _
   | refine LeO.ite ?_ ?_
   | refine LeO.bind ?_ (fun _=>?_)
set_option maxHeartbeats 8000000 in
theorem fleuronref27_Same.calls (k : Nat) (a0_0 : Int) (A0_1 : Option Addr) (c0_1 : Nat) (l0_1 : List (S41)) (A0_2 : Option Addr) (c0_2 : Nat) (l0_2 : List (S46)) (a1_0 : Int) (A1_1 : Option Addr) (c1_1 : Nat) (l1_1 : List (S41)) (A1_2 : Option Addr) (c1_2 : Nat) (l1_2 : List (S46)) (r : Bool) (w : World) (hr0_1 : Kd.C k41 w A0_1 l0_1.length l0_1) (hc0_1 : l0_1.length ≤ c0_1) (hr0_2 : Kd.C k46 w A0_2 l0_2.length l0_2) (hc0_2 : l0_2.length ≤ c0_2) (hr1_1 : Kd.C k41 w A1_1 l1_1.length l1_1) (hc1_1 : l1_1.length ≤ c1_1) (hr1_2 : Kd.C k46 w A1_2 l1_2.length l1_2) (hc1_2 : l1_2.length ≤ c1_2) (h : fleuronref27_Same.f k a0_0 l0_1 l0_2 a1_0 l1_1 l1_2 = some r) :
  Calls Try.prog 10 #[.agg #[.int .i64 a0_0,.slice A0_1 l0_1.length c0_1,.slice A0_2 l0_2.length c0_2],.agg #[.int .i64 a1_0,.slice A1_1 l1_1.length c1_1,.slice A1_2 l1_2.length c1_2]] w fun e w'=>e = .returned (.bool r)∧Below w.heap.size w w':=by
 have hu25:=Try.underlying25
 have hu41:=Try.underlying41
 have hu46:=Try.underlying46
 have HR0_1:=aK hr0_1
 have HC0_1:=aK hc0_1
 clear hr0_1 hc0_1
 have HR0_2:=aK hr0_2
 have HC0_2:=aK hc0_2
 clear hr0_2 hc0_2
 have HR1_1:=aK hr1_1
 have HC1_1:=aK hc1_1
 clear hr1_1 hc1_1
 have HR1_2:=aK hr1_2
 have HC1_2:=aK hc1_2
 clear hr1_2 hc1_2
 have HB:=aK (Below.refl w.heap.size w)
 have H:(if a0_0=a1_0 then (if (l0_1.length:Int)=(l1_1.length:Int) then (fleuronref27_Same.j0 k ((l0_2.length:Int) != (l1_2.length:Int)) a0_0 l0_1 l0_2 a1_0 l1_1 l1_2) else (fleuronref27_Same.j0 k true a0_0 l0_1 l0_2 a1_0 l1_1 l1_2)) else (fleuronref27_Same.j0 k true a0_0 l0_1 l0_2 a1_0 l1_1 l1_2))=some r:=h
 clear h
 have HC3:=aK H
 clear H
 go_enter Try.func10,Try.ntmps10
 go_upto_region 1 with (first|((with_reducible refine gate_dst (N:=2) rfl ?_);refine box_event ?hg (N:=2) ?hd (cs:=#[.int .i64 a0_0,.slice A0_1 l0_1.length c0_1,.slice A0_2 l0_2.length c0_2]) (t:=25) ?hr ?_;(case hd=>rfl);(case hg=>rfl);(case hr=>first|(go_simp;done)|(go_simp;rfl));intro gb133 hg w4 hbox hb;have n0_:=aK (below_step (by repeat (first|(with_reducible first|exact HB.out|apply below_alloc|apply pw_below_drewN|apply below_drew1)|exact HB.out)) hb);have n1_:=aK (hbox);have n2_:=aK ((by rw [hg];exact (below_size (by repeat (first|(with_reducible first|exact HB.out|apply below_alloc|apply pw_below_drewN|apply below_drew1)|exact HB.out))):w.heap.size≤gb133));have n3_:=n2_;clear HB;have HB:=n0_;have BK133:=n1_;have GW133:=n2_;have GE133:=n3_;clear n0_ n1_ n2_ n3_;clear hb hbox hg)|((with_reducible refine gate_dst (N:=3) rfl ?_);refine box_event ?hg (N:=3) ?hd (cs:=#[.int .i64 a1_0,.slice A1_1 l1_1.length c1_1,.slice A1_2 l1_2.length c1_2]) (t:=25) ?hr ?_;(case hd=>rfl);(case hg=>rfl);(case hr=>first|(go_simp;done)|(go_simp;rfl));intro gb134 hg w5 hbox hb;have n0_:=aK (blk_below (g:=gb133) (o:=.cells #[.int .i64 a0_0,.slice A0_1 l0_1.length c0_1,.slice A0_2 l0_2.length c0_2] 25 (0,0)) (by (with_reducible repeat (first|refine blk_drewN ?_ _|refine blk_drew ?_|refine blk_alloc ?_ _));exact BK133.out) hb);have n1_:=aK (below_step (by repeat (first|(with_reducible first|exact HB.out|apply below_alloc|apply pw_below_drewN|apply below_drew1|refine below_set ?_ GE133.out)|exact HB.out)) hb);have n2_:=aK (hbox);have n3_:=aK ((by rw [hg];exact (below_size (by repeat (first|(with_reducible first|exact HB.out|apply below_alloc|apply pw_below_drewN|apply below_drew1|refine below_set ?_ GE133.out)|exact HB.out))):w.heap.size≤gb134));have n4_:=n3_;have n5_:=aK ((by rw [hg];exact Nat.ne_of_lt (blk_lt (g:=gb133) (o:=.cells #[.int .i64 a0_0,.slice A0_1 l0_1.length c0_1,.slice A0_2 l0_2.length c0_2] 25 (0,0)) (by (with_reducible repeat (first|refine blk_drewN ?_ _|refine blk_drew ?_|refine blk_alloc ?_ _));exact BK133.out)):gb133≠gb134));have n6_:=aK (Ne.symm n5_.out);clear BK133;clear HB;have BK133:=n0_;have HB:=n1_;have BK134:=n2_;have GW134:=n3_;have GE134:=n4_;have NB133_134:=n5_;have NB134_133:=n6_;clear n0_ n1_ n2_ n3_ n4_ n5_ n6_;clear hb hbox hg))
 repeat (go_quiet (first|((with_reducible refine gate_dst (N:=2) rfl ?_);refine box_event ?hg (N:=2) ?hd (cs:=#[.int .i64 a0_0,.slice A0_1 l0_1.length c0_1,.slice A0_2 l0_2.length c0_2]) (t:=25) ?hr ?_;(case hd=>rfl);(case hg=>rfl);(case hr=>first|(go_simp;done)|(go_simp;rfl));intro gb133 hg w4 hbox hb;have n0_:=aK (below_step (by repeat (first|(with_reducible first|exact HB.out|apply below_alloc|apply pw_below_drewN|apply below_drew1)|exact HB.out)) hb);have n1_:=aK (hbox);have n2_:=aK ((by rw [hg];exact (below_size (by repeat (first|(with_reducible first|exact HB.out|apply below_alloc|apply pw_below_drewN|apply below_drew1)|exact HB.out))):w.heap.size≤gb133));have n3_:=n2_;clear HB;have HB:=n0_;have BK133:=n1_;have GW133:=n2_;have GE133:=n3_;clear n0_ n1_ n2_ n3_;clear hb hbox hg)|((with_reducible refine gate_dst (N:=3) rfl ?_);refine box_event ?hg (N:=3) ?hd (cs:=#[.int .i64 a1_0,.slice A1_1 l1_1.length c1_1,.slice A1_2 l1_2.length c1_2]) (t:=25) ?hr ?_;(case hd=>rfl);(case hg=>rfl);(case hr=>first|(go_simp;done)|(go_simp;rfl));intro gb134 hg w5 hbox hb;have n0_:=aK (blk_below (g:=gb133) (o:=.cells #[.int .i64 a0_0,.slice A0_1 l0_1.length c0_1,.slice A0_2 l0_2.length c0_2] 25 (0,0)) (by (with_reducible repeat (first|refine blk_drewN ?_ _|refine blk_drew ?_|refine blk_alloc ?_ _));exact BK133.out) hb);have n1_:=aK (below_step (by repeat (first|(with_reducible first|exact HB.out|apply below_alloc|apply pw_below_drewN|apply below_drew1|refine below_set ?_ GE133.out)|exact HB.out)) hb);have n2_:=aK (hbox);have n3_:=aK ((by rw [hg];exact (below_size (by repeat (first|(with_reducible first|exact HB.out|apply below_alloc|apply pw_below_drewN|apply below_drew1|refine below_set ?_ GE133.out)|exact HB.out))):w.heap.size≤gb134));have n4_:=n3_;have n5_:=aK ((by rw [hg];exact Nat.ne_of_lt (blk_lt (g:=gb133) (o:=.cells #[.int .i64 a0_0,.slice A0_1 l0_1.length c0_1,.slice A0_2 l0_2.length c0_2] 25 (0,0)) (by (with_reducible repeat (first|refine blk_drewN ?_ _|refine blk_drew ?_|refine blk_alloc ?_ _));exact BK133.out)):gb133≠gb134));have n6_:=aK (Ne.symm n5_.out);clear BK133;clear HB;have BK133:=n0_;have HB:=n1_;have BK134:=n2_;have GW134:=n3_;have GE134:=n4_;have NB133_134:=n5_;have NB134_133:=n6_;clear n0_ n1_ n2_ n3_ n4_ n5_ n6_;clear hb hbox hg));go_upto_region 1 with (first|((with_reducible refine gate_dst (N:=2) rfl ?_);refine box_event ?hg (N:=2) ?hd (cs:=#[.int .i64 a0_0,.slice A0_1 l0_1.length c0_1,.slice A0_2 l0_2.length c0_2]) (t:=25) ?hr ?_;(case hd=>rfl);(case hg=>rfl);(case hr=>first|(go_simp;done)|(go_simp;rfl));intro gb133 hg w4 hbox hb;have n0_:=aK (below_step (by repeat (first|(with_reducible first|exact HB.out|apply below_alloc|apply pw_below_drewN|apply below_drew1)|exact HB.out)) hb);have n1_:=aK (hbox);have n2_:=aK ((by rw [hg];exact (below_size (by repeat (first|(with_reducible first|exact HB.out|apply below_alloc|apply pw_below_drewN|apply below_drew1)|exact HB.out))):w.heap.size≤gb133));have n3_:=n2_;clear HB;have HB:=n0_;have BK133:=n1_;have GW133:=n2_;have GE133:=n3_;clear n0_ n1_ n2_ n3_;clear hb hbox hg)|((with_reducible refine gate_dst (N:=3) rfl ?_);refine box_event ?hg (N:=3) ?hd (cs:=#[.int .i64 a1_0,.slice A1_1 l1_1.length c1_1,.slice A1_2 l1_2.length c1_2]) (t:=25) ?hr ?_;(case hd=>rfl);(case hg=>rfl);(case hr=>first|(go_simp;done)|(go_simp;rfl));intro gb134 hg w5 hbox hb;have n0_:=aK (blk_below (g:=gb133) (o:=.cells #[.int .i64 a0_0,.slice A0_1 l0_1.length c0_1,.slice A0_2 l0_2.length c0_2] 25 (0,0)) (by (with_reducible repeat (first|refine blk_drewN ?_ _|refine blk_drew ?_|refine blk_alloc ?_ _));exact BK133.out) hb);have n1_:=aK (below_step (by repeat (first|(with_reducible first|exact HB.out|apply below_alloc|apply pw_below_drewN|apply below_drew1|refine below_set ?_ GE133.out)|exact HB.out)) hb);have n2_:=aK (hbox);have n3_:=aK ((by rw [hg];exact (below_size (by repeat (first|(with_reducible first|exact HB.out|apply below_alloc|apply pw_below_drewN|apply below_drew1|refine below_set ?_ GE133.out)|exact HB.out))):w.heap.size≤gb134));have n4_:=n3_;have n5_:=aK ((by rw [hg];exact Nat.ne_of_lt (blk_lt (g:=gb133) (o:=.cells #[.int .i64 a0_0,.slice A0_1 l0_1.length c0_1,.slice A0_2 l0_2.length c0_2] 25 (0,0)) (by (with_reducible repeat (first|refine blk_drewN ?_ _|refine blk_drew ?_|refine blk_alloc ?_ _));exact BK133.out)):gb133≠gb134));have n6_:=aK (Ne.symm n5_.out);clear BK133;clear HB;have BK133:=n0_;have HB:=n1_;have BK134:=n2_;have GW134:=n3_;have GE134:=n4_;have NB133_134:=n5_;have NB134_133:=n6_;clear n0_ n1_ n2_ n3_ n4_ n5_ n6_;clear hb hbox hg)))
 (try simp only [Act.put,lS])
 go_cut [29] (fun v29 wc=>∃ (kq:Nat) (x29_2:Bool),v29 = .bool x29_2∧Aside0 (fleuronref27_Same.j0 kq x29_2 a0_0 l0_1 l0_2 a1_0 l1_1 l1_2=some r)∧Aside0 (kq≤k)∧Aside0 (wc.heap[gb133]?=some (.cells #[.int .i64 a0_0,(.slice A0_1 l0_1.length c0_1),(.slice A0_2 l0_2.length c0_2)] 25 (0,0)))∧Aside0 (wc.heap[gb134]?=some (.cells #[.int .i64 a1_0,(.slice A1_1 l1_1.length c1_1),(.slice A1_2 l1_2.length c1_2)] 25 (0,0)))∧Aside0 (Below w.heap.size w wc))
 case first =>
  have H:=HC3.out
  clear HC3
  by_cases c6:a0_0=a1_0
  ·rw [if_pos c6] at H
   have c6b0:(a0_0 == a1_0)=true:=beq_iff_eq.mpr c6
   have c6b1:(a0_0 != a1_0)=false:=bne_eq_false_iff_eq.mpr c6
   clear c6
   (first|rw [c6b0]|(simp only [i64_w,i32_w];rw [c6b0])|skip)
   by_cases c7:(l0_1.length:Int)=(l1_1.length:Int)
   ·rw [if_pos c7] at H
    have c7b0:((l0_1.length:Int) == (l1_1.length:Int))=true:=beq_iff_eq.mpr c7
    have c7b1:((l0_1.length:Int) != (l1_1.length:Int))=false:=bne_eq_false_iff_eq.mpr c7
    have c7b2:(l0_1.length == l1_1.length)=true:=by first|simpa using c7|(simp at c7 ⊢;omega)
    clear c7
    have H':=aK H
    clear H
    have hnb8:=NB133_134.out
    have hnc8:=NB134_133.out
    have hcz9_0:w5.cell? ⟨gb133,0,none⟩=some (.int .i64 a0_0):=(blk_cell BK133.out 0).trans rfl
    have hcz9_1:w5.cell? ⟨gb133,1,none⟩=some (.slice A0_1 l0_1.length c0_1):=(blk_cell BK133.out 1).trans rfl
    have hcz9_2:w5.cell? ⟨gb133,2,none⟩=some (.slice A0_2 l0_2.length c0_2):=(blk_cell BK133.out 2).trans rfl
    have hfz9_0:=blk_frozen BK133.out 0
    have hfz9_1:=blk_frozen BK133.out 1
    have hfz9_2:=blk_frozen BK133.out 2
    have hcz10_0:w5.cell? ⟨gb134,0,none⟩=some (.int .i64 a1_0):=(blk_cell BK134.out 0).trans rfl
    have hcz10_1:w5.cell? ⟨gb134,1,none⟩=some (.slice A1_1 l1_1.length c1_1):=(blk_cell BK134.out 1).trans rfl
    have hcz10_2:w5.cell? ⟨gb134,2,none⟩=some (.slice A1_2 l1_2.length c1_2):=(blk_cell BK134.out 2).trans rfl
    have hfz10_0:=blk_frozen BK134.out 0
    have hfz10_1:=blk_frozen BK134.out 1
    have hfz10_2:=blk_frozen BK134.out 2
    go_wp2
    repeat (go_quiet (fail);try go_wp2)
    go_meet
    case rel=>exact ⟨_,(((l0_2.length:Int) != (l1_2.length:Int))),(by first|rfl|(simp;done)|(simp [*];done)),H',⟨by first|omega|exact Nat.le_refl _⟩,⟨by (with_reducible repeat (first|refine blk_drewN ?_ _|refine blk_drew ?_|refine blk_alloc ?_ _));exact BK133.out⟩,⟨by (with_reducible repeat (first|refine blk_drewN ?_ _|refine blk_drew ?_|refine blk_alloc ?_ _));exact BK134.out⟩,⟨by repeat (first|(with_reducible first|exact HB.out|apply below_alloc|apply pw_below_drewN|apply below_drew1|refine below_set ?_ GE133.out|refine below_set ?_ GE134.out)|exact HB.out)⟩⟩
   ·rw [if_neg c7] at H
    have c7b0:((l0_1.length:Int) == (l1_1.length:Int))=false:=beq_eq_false_iff_ne.mpr c7
    have c7b1:((l0_1.length:Int) != (l1_1.length:Int))=true:=bne_iff_ne.mpr c7
    have c7b2:(l0_1.length == l1_1.length)=false:=by first|simpa using c7|(simp at c7 ⊢;omega)
    have H':=aK H
    clear H
    have hnb11:=NB133_134.out
    have hnc11:=NB134_133.out
    have hcz12_0:w5.cell? ⟨gb133,0,none⟩=some (.int .i64 a0_0):=(blk_cell BK133.out 0).trans rfl
    have hcz12_1:w5.cell? ⟨gb133,1,none⟩=some (.slice A0_1 l0_1.length c0_1):=(blk_cell BK133.out 1).trans rfl
    have hcz12_2:w5.cell? ⟨gb133,2,none⟩=some (.slice A0_2 l0_2.length c0_2):=(blk_cell BK133.out 2).trans rfl
    have hfz12_0:=blk_frozen BK133.out 0
    have hfz12_1:=blk_frozen BK133.out 1
    have hfz12_2:=blk_frozen BK133.out 2
    have hcz13_0:w5.cell? ⟨gb134,0,none⟩=some (.int .i64 a1_0):=(blk_cell BK134.out 0).trans rfl
    have hcz13_1:w5.cell? ⟨gb134,1,none⟩=some (.slice A1_1 l1_1.length c1_1):=(blk_cell BK134.out 1).trans rfl
    have hcz13_2:w5.cell? ⟨gb134,2,none⟩=some (.slice A1_2 l1_2.length c1_2):=(blk_cell BK134.out 2).trans rfl
    have hfz13_0:=blk_frozen BK134.out 0
    have hfz13_1:=blk_frozen BK134.out 1
    have hfz13_2:=blk_frozen BK134.out 2
    go_wp2
    repeat (go_quiet (fail);try go_wp2)
    go_meet
    case rel=>exact ⟨_,(true),(by first|rfl|(simp;done)|(simp [*];done)),H',⟨by first|omega|exact Nat.le_refl _⟩,⟨by (with_reducible repeat (first|refine blk_drewN ?_ _|refine blk_drew ?_|refine blk_alloc ?_ _));exact BK133.out⟩,⟨by (with_reducible repeat (first|refine blk_drewN ?_ _|refine blk_drew ?_|refine blk_alloc ?_ _));exact BK134.out⟩,⟨by repeat (first|(with_reducible first|exact HB.out|apply below_alloc|apply pw_below_drewN|apply below_drew1|refine below_set ?_ GE133.out|refine below_set ?_ GE134.out)|exact HB.out)⟩⟩
  ·rw [if_neg c6] at H
   have c6b0:(a0_0 == a1_0)=false:=beq_eq_false_iff_ne.mpr c6
   have c6b1:(a0_0 != a1_0)=true:=bne_iff_ne.mpr c6
   (first|rw [c6b0]|(simp only [i64_w,i32_w];rw [c6b0])|skip)
   have H':=aK H
   clear H
   have hnb14:=NB133_134.out
   have hnc14:=NB134_133.out
   have hcz15_0:w5.cell? ⟨gb133,0,none⟩=some (.int .i64 a0_0):=(blk_cell BK133.out 0).trans rfl
   have hcz15_1:w5.cell? ⟨gb133,1,none⟩=some (.slice A0_1 l0_1.length c0_1):=(blk_cell BK133.out 1).trans rfl
   have hcz15_2:w5.cell? ⟨gb133,2,none⟩=some (.slice A0_2 l0_2.length c0_2):=(blk_cell BK133.out 2).trans rfl
   have hfz15_0:=blk_frozen BK133.out 0
   have hfz15_1:=blk_frozen BK133.out 1
   have hfz15_2:=blk_frozen BK133.out 2
   have hcz16_0:w5.cell? ⟨gb134,0,none⟩=some (.int .i64 a1_0):=(blk_cell BK134.out 0).trans rfl
   have hcz16_1:w5.cell? ⟨gb134,1,none⟩=some (.slice A1_1 l1_1.length c1_1):=(blk_cell BK134.out 1).trans rfl
   have hcz16_2:w5.cell? ⟨gb134,2,none⟩=some (.slice A1_2 l1_2.length c1_2):=(blk_cell BK134.out 2).trans rfl
   have hfz16_0:=blk_frozen BK134.out 0
   have hfz16_1:=blk_frozen BK134.out 1
   have hfz16_2:=blk_frozen BK134.out 2
   go_wp2
   repeat (go_quiet (fail);try go_wp2)
   go_meet
   case rel=>exact ⟨_,(true),(by first|rfl|(simp;done)|(simp [*];done)),H',⟨by first|omega|exact Nat.le_refl _⟩,⟨by (with_reducible repeat (first|refine blk_drewN ?_ _|refine blk_drew ?_|refine blk_alloc ?_ _));exact BK133.out⟩,⟨by (with_reducible repeat (first|refine blk_drewN ?_ _|refine blk_drew ?_|refine blk_alloc ?_ _));exact BK134.out⟩,⟨by repeat (first|(with_reducible first|exact HB.out|apply below_alloc|apply pw_below_drewN|apply below_drew1|refine below_set ?_ GE133.out|refine below_set ?_ GE134.out)|exact HB.out)⟩⟩
 case rest =>
  clear HC3
  try clear c1
  try clear p2
  try clear c6
  try clear c6b0
  try clear c6b1
  try clear c7
  try clear c7b0
  try clear c7b1
  try clear c7b2
  try clear c8
  try clear c10
  try clear c11
  try clear c14
  try clear hcz10_0
  try clear hcz10_1
  try clear hcz10_2
  try clear hcz12_0
  try clear hcz12_1
  try clear hcz12_2
  try clear hcz13_0
  try clear hcz13_1
  try clear hcz13_2
  try clear hcz15_0
  try clear hcz15_1
  try clear hcz15_2
  try clear hcz16_0
  try clear hcz16_1
  try clear hcz16_2
  try clear hcz9_0
  try clear hcz9_1
  try clear hcz9_2
  try clear hfz10_0
  try clear hfz10_1
  try clear hfz10_2
  try clear hfz12_0
  try clear hfz12_1
  try clear hfz12_2
  try clear hfz13_0
  try clear hfz13_1
  try clear hfz13_2
  try clear hfz15_0
  try clear hfz15_1
  try clear hfz15_2
  try clear hfz16_0
  try clear hfz16_1
  try clear hfz16_2
  try clear hfz9_0
  try clear hfz9_1
  try clear hfz9_2
  obtain ⟨kq,x29_2,rfl,HA,HJ2,BK133,BK134,HB⟩:=hcut
  cases kq with
  | zero=>exact absurd HA.out (by simp [fleuronref27_Same.j0])
  | succ kj2 =>
   have H:=HA.out
   clear HA
   simp only [fleuronref27_Same.j0] at H
   by_cases c17:x29_2=true
   ·subst c17
    have H1:(some false)=some r:=by rw [if_pos rfl] at H;exact H
    clear H
    have H:=H1
    clear H1
    obtain rfl:=Option.some.inj H
    go_wp2
    repeat (go_quiet (fail);try go_wp2)
    go_ret
    exact ⟨by first|rfl|(simp [errW_none,errW_some] <;> rfl)|(simp [*,errW_none,errW_some] <;> rfl),by repeat (first|(with_reducible first|exact HB.out|apply below_alloc|apply pw_below_drewN|apply below_drew1|refine below_set ?_ GE133.out|refine below_set ?_ GE134.out)|exact HB.out)⟩
   ·replace c17:=Bool.eq_false_iff.mpr c17
    subst c17
    have H1:(fleuronref27_Same.l0 kj2 (l0_1.length:Int) 0 a0_0 l0_1 l0_2 a1_0 l1_1 l1_2)=some r:=by rw [if_neg (show ¬ (false=true) by decide)] at H;exact H
    clear H
    have H:=H1
    clear H1
    have H':=aK H
    clear H
    have hnb18:=NB133_134.out
    have hnc18:=NB134_133.out
    have hcz19_0:wc.cell? ⟨gb133,0,none⟩=some (.int .i64 a0_0):=(blk_cell BK133.out 0).trans rfl
    have hcz19_1:wc.cell? ⟨gb133,1,none⟩=some (.slice A0_1 l0_1.length c0_1):=(blk_cell BK133.out 1).trans rfl
    have hcz19_2:wc.cell? ⟨gb133,2,none⟩=some (.slice A0_2 l0_2.length c0_2):=(blk_cell BK133.out 2).trans rfl
    have hfz19_0:=blk_frozen BK133.out 0
    have hfz19_1:=blk_frozen BK133.out 1
    have hfz19_2:=blk_frozen BK133.out 2
    go_wp2
    repeat (go_quiet (fail);try go_wp2)
    go_loopg [33] kj2 (fun kq v33 w'=>∃ (x33_2:Int),v33 = .int .i64 x33_2∧Aside0 (fleuronref27_Same.l0 kq (l0_1.length:Int) x33_2 a0_0 l0_1 l0_2 a1_0 l1_1 l1_2=some r)∧Aside0 (kq≤kj2)∧Aside0 (w'.heap[gb133]?=some (.cells #[.int .i64 a0_0,(.slice A0_1 l0_1.length c0_1),(.slice A0_2 l0_2.length c0_2)] 25 (0,0)))∧Aside0 (w'.heap[gb134]?=some (.cells #[.int .i64 a1_0,(.slice A1_1 l1_1.length c1_1),(.slice A1_2 l1_2.length c1_2)] 25 (0,0)))∧Aside0 (Below w.heap.size w w'))
    case atStart=>exact ⟨(0),(by first|rfl|(simp;done)|(simp [*];done)),H',⟨Nat.le_refl _⟩,⟨by (with_reducible repeat (first|refine blk_drewN ?_ _|refine blk_drew ?_|refine blk_alloc ?_ _));exact BK133.out⟩,⟨by (with_reducible repeat (first|refine blk_drewN ?_ _|refine blk_drew ?_|refine blk_alloc ?_ _));exact BK134.out⟩,⟨by repeat (first|(with_reducible first|exact HB.out|apply below_alloc|apply pw_below_drewN|apply below_drew1|refine below_set ?_ GE133.out|refine below_set ?_ GE134.out)|exact HB.out)⟩⟩
    case round =>
     clear H'
     try clear c1
     try clear p2
     try clear c6
     try clear c6b0
     try clear c6b1
     try clear c7
     try clear c7b0
     try clear c7b1
     try clear c7b2
     try clear c8
     try clear c10
     try clear c11
     try clear c14
     try clear c17
     try clear c18
     try clear hcz10_0
     try clear hcz10_1
     try clear hcz10_2
     try clear hcz12_0
     try clear hcz12_1
     try clear hcz12_2
     try clear hcz13_0
     try clear hcz13_1
     try clear hcz13_2
     try clear hcz15_0
     try clear hcz15_1
     try clear hcz15_2
     try clear hcz16_0
     try clear hcz16_1
     try clear hcz16_2
     try clear hcz19_0
     try clear hcz19_1
     try clear hcz19_2
     try clear hcz9_0
     try clear hcz9_1
     try clear hcz9_2
     try clear hfz10_0
     try clear hfz10_1
     try clear hfz10_2
     try clear hfz12_0
     try clear hfz12_1
     try clear hfz12_2
     try clear hfz13_0
     try clear hfz13_1
     try clear hfz13_2
     try clear hfz15_0
     try clear hfz15_1
     try clear hfz15_2
     try clear hfz16_0
     try clear hfz16_1
     try clear hfz16_2
     try clear hfz19_0
     try clear hfz19_1
     try clear hfz19_2
     try clear hfz9_0
     try clear hfz9_1
     try clear hfz9_2
     try clear p2
     obtain ⟨x33_2,rfl,HA,HK2,BK133,BK134,HB⟩:=hrel
     cases gk with
     | zero=>exact absurd HA.out (by simp [fleuronref27_Same.l0])
     | succ k2 =>
      have H:=HA.out
      clear HA
      simp only [fleuronref27_Same.l0] at H
      by_cases c20:x33_2<(l0_1.length:Int)
      ·rw [if_pos c20] at H
       have c20b0:decide (x33_2<(l0_1.length:Int))=true:=decide_eq_true c20
       clear c20
       by_cases c21:0≤x33_2
       ·rw [if_pos c21] at H
        have c21b0:decide (0≤x33_2)=true:=decide_eq_true c21
        clear c21
        by_cases c22:x33_2<(l0_1.length:Int)
        ·rw [if_pos c22] at H
         have c22b0:decide (x33_2<(l0_1.length:Int))=true:=decide_eq_true c22
         clear c22
         by_cases c23:x33_2<(l1_1.length:Int)
         ·rw [if_pos c23] at H
          have c23b0:decide (x33_2<(l1_1.length:Int))=true:=decide_eq_true c23
          clear c23
          by_cases c24:(!(((rd_T41 l0_1 x33_2).f0) == ((rd_T41 l1_1 x33_2).f0)) || (!(((rd_T41 l0_1 x33_2).f1) == ((rd_T41 l1_1 x33_2).f1)) || (!(((rd_T41 l0_1 x33_2).f2) == ((rd_T41 l1_1 x33_2).f2)) || (!(((rd_T41 l0_1 x33_2).f3) == ((rd_T41 l1_1 x33_2).f3))))))=true
          ·rw [if_pos c24] at H
           have c24b0:(!(((rd_T41 l0_1 x33_2).f0) == ((rd_T41 l1_1 x33_2).f0)) || (!(((rd_T41 l0_1 x33_2).f1) == ((rd_T41 l1_1 x33_2).f1)) || (!(((rd_T41 l0_1 x33_2).f2) == ((rd_T41 l1_1 x33_2).f2)) || (!(((rd_T41 l0_1 x33_2).f3) == ((rd_T41 l1_1 x33_2).f3))))))=true:=c24
           clear c24
           obtain rfl:=Option.some.inj H
           have hnb25:=NB133_134.out
           have hnc25:=NB134_133.out
           have hcz26_0:wr.cell? ⟨gb133,0,none⟩=some (.int .i64 a0_0):=(blk_cell BK133.out 0).trans rfl
           have hcz26_1:wr.cell? ⟨gb133,1,none⟩=some (.slice A0_1 l0_1.length c0_1):=(blk_cell BK133.out 1).trans rfl
           have hcz26_2:wr.cell? ⟨gb133,2,none⟩=some (.slice A0_2 l0_2.length c0_2):=(blk_cell BK133.out 2).trans rfl
           have hfz26_0:=blk_frozen BK133.out 0
           have hfz26_1:=blk_frozen BK133.out 1
           have hfz26_2:=blk_frozen BK133.out 2
           have p135:0≤(x33_2:Int):=of_decide_eq_true (by first|(with_reducible assumption)|assumption)
           have q135:x33_2<(l0_1.length:Int):=of_decide_eq_true (by first|(with_reducible assumption)|assumption)
           obtain ⟨ad135,e135,hx135_0,hx135_1,hx135_2,hx135_3⟩:=at_T41 HR0_1.out x33_2 p135 q135
           cases e135
           replace hx135_0:=(HB.out.cell (World.block_lt_of_cell? w _ hx135_0)).trans hx135_0
           replace hx135_1:=(HB.out.cell (World.block_lt_of_cell? w _ hx135_1)).trans hx135_1
           replace hx135_2:=(HB.out.cell (World.block_lt_of_cell? w _ hx135_2)).trans hx135_2
           replace hx135_3:=(HB.out.cell (World.block_lt_of_cell? w _ hx135_3)).trans hx135_3
           replace p135:=eq_true p135
           replace q135:=eq_true q135
           have hcz27_0:wr.cell? ⟨gb134,0,none⟩=some (.int .i64 a1_0):=(blk_cell BK134.out 0).trans rfl
           have hcz27_1:wr.cell? ⟨gb134,1,none⟩=some (.slice A1_1 l1_1.length c1_1):=(blk_cell BK134.out 1).trans rfl
           have hcz27_2:wr.cell? ⟨gb134,2,none⟩=some (.slice A1_2 l1_2.length c1_2):=(blk_cell BK134.out 2).trans rfl
           have hfz27_0:=blk_frozen BK134.out 0
           have hfz27_1:=blk_frozen BK134.out 1
           have hfz27_2:=blk_frozen BK134.out 2
           have p136:0≤(x33_2:Int):=of_decide_eq_true (by first|(with_reducible assumption)|assumption)
           have q136:x33_2<(l1_1.length:Int):=of_decide_eq_true (by first|(with_reducible assumption)|assumption)
           obtain ⟨ad136,e136,hx136_0,hx136_1,hx136_2,hx136_3⟩:=at_T41 HR1_1.out x33_2 p136 q136
           cases e136
           replace hx136_0:=(HB.out.cell (World.block_lt_of_cell? w _ hx136_0)).trans hx136_0
           replace hx136_1:=(HB.out.cell (World.block_lt_of_cell? w _ hx136_1)).trans hx136_1
           replace hx136_2:=(HB.out.cell (World.block_lt_of_cell? w _ hx136_2)).trans hx136_2
           replace hx136_3:=(HB.out.cell (World.block_lt_of_cell? w _ hx136_3)).trans hx136_3
           replace p136:=eq_true p136
           replace q136:=eq_true q136
           go_wp2
           repeat (go_quiet (fail);try go_wp2)
           go_ret
           exact ⟨by first|rfl|(simp [errW_none,errW_some] <;> rfl)|(simp [*,errW_none,errW_some] <;> rfl),by repeat (first|(with_reducible first|exact HB.out|apply below_alloc|apply pw_below_drewN|apply below_drew1|refine below_set ?_ GE133.out|refine below_set ?_ GE134.out)|exact HB.out)⟩
          ·rw [if_neg c24] at H
           have c24b0:(!(((rd_T41 l0_1 x33_2).f0) == ((rd_T41 l1_1 x33_2).f0)) || (!(((rd_T41 l0_1 x33_2).f1) == ((rd_T41 l1_1 x33_2).f1)) || (!(((rd_T41 l0_1 x33_2).f2) == ((rd_T41 l1_1 x33_2).f2)) || (!(((rd_T41 l0_1 x33_2).f3) == ((rd_T41 l1_1 x33_2).f3))))))=false:=by simpa using c24
           clear c24
           have H':=aK H
           clear H
           have hnb28:=NB133_134.out
           have hnc28:=NB134_133.out
           have hcz29_0:wr.cell? ⟨gb133,0,none⟩=some (.int .i64 a0_0):=(blk_cell BK133.out 0).trans rfl
           have hcz29_1:wr.cell? ⟨gb133,1,none⟩=some (.slice A0_1 l0_1.length c0_1):=(blk_cell BK133.out 1).trans rfl
           have hcz29_2:wr.cell? ⟨gb133,2,none⟩=some (.slice A0_2 l0_2.length c0_2):=(blk_cell BK133.out 2).trans rfl
           have hfz29_0:=blk_frozen BK133.out 0
           have hfz29_1:=blk_frozen BK133.out 1
           have hfz29_2:=blk_frozen BK133.out 2
           have p135:0≤(x33_2:Int):=of_decide_eq_true (by first|(with_reducible assumption)|assumption)
           have q135:x33_2<(l0_1.length:Int):=of_decide_eq_true (by first|(with_reducible assumption)|assumption)
           obtain ⟨ad135,e135,hx135_0,hx135_1,hx135_2,hx135_3⟩:=at_T41 HR0_1.out x33_2 p135 q135
           cases e135
           replace hx135_0:=(HB.out.cell (World.block_lt_of_cell? w _ hx135_0)).trans hx135_0
           replace hx135_1:=(HB.out.cell (World.block_lt_of_cell? w _ hx135_1)).trans hx135_1
           replace hx135_2:=(HB.out.cell (World.block_lt_of_cell? w _ hx135_2)).trans hx135_2
           replace hx135_3:=(HB.out.cell (World.block_lt_of_cell? w _ hx135_3)).trans hx135_3
           replace p135:=eq_true p135
           replace q135:=eq_true q135
           have hcz30_0:wr.cell? ⟨gb134,0,none⟩=some (.int .i64 a1_0):=(blk_cell BK134.out 0).trans rfl
           have hcz30_1:wr.cell? ⟨gb134,1,none⟩=some (.slice A1_1 l1_1.length c1_1):=(blk_cell BK134.out 1).trans rfl
           have hcz30_2:wr.cell? ⟨gb134,2,none⟩=some (.slice A1_2 l1_2.length c1_2):=(blk_cell BK134.out 2).trans rfl
           have hfz30_0:=blk_frozen BK134.out 0
           have hfz30_1:=blk_frozen BK134.out 1
           have hfz30_2:=blk_frozen BK134.out 2
           have p136:0≤(x33_2:Int):=of_decide_eq_true (by first|(with_reducible assumption)|assumption)
           have q136:x33_2<(l1_1.length:Int):=of_decide_eq_true (by first|(with_reducible assumption)|assumption)
           obtain ⟨ad136,e136,hx136_0,hx136_1,hx136_2,hx136_3⟩:=at_T41 HR1_1.out x33_2 p136 q136
           cases e136
           replace hx136_0:=(HB.out.cell (World.block_lt_of_cell? w _ hx136_0)).trans hx136_0
           replace hx136_1:=(HB.out.cell (World.block_lt_of_cell? w _ hx136_1)).trans hx136_1
           replace hx136_2:=(HB.out.cell (World.block_lt_of_cell? w _ hx136_2)).trans hx136_2
           replace hx136_3:=(HB.out.cell (World.block_lt_of_cell? w _ hx136_3)).trans hx136_3
           replace p136:=eq_true p136
           replace q136:=eq_true q136
           go_wp2
           repeat (go_quiet (fail);try go_wp2)
           go_roundg k2
           case measure=>have:=HJ2.out;have:=HK2.out;omega
           case rel=>exact ⟨(wrap64 (x33_2+1)),(by first|rfl|(simp;done)|(simp [*];done)),H',⟨by have:=HJ2.out;have:=HK2.out;omega⟩,⟨by (with_reducible repeat (first|refine blk_drewN ?_ _|refine blk_drew ?_|refine blk_alloc ?_ _));exact BK133.out⟩,⟨by (with_reducible repeat (first|refine blk_drewN ?_ _|refine blk_drew ?_|refine blk_alloc ?_ _));exact BK134.out⟩,⟨by repeat (first|(with_reducible first|exact HB.out|apply below_alloc|apply pw_below_drewN|apply below_drew1|refine below_set ?_ GE133.out|refine below_set ?_ GE134.out)|exact HB.out)⟩⟩
         ·rw [if_neg c23] at H
          exact absurd H (by simp)
        ·rw [if_neg c22] at H
         exact absurd H (by simp)
       ·rw [if_neg c21] at H
        exact absurd H (by simp)
      ·rw [if_neg c20] at H
       have c20b0:decide (x33_2<(l0_1.length:Int))=false:=decide_eq_false c20
       clear c20
       have H':=aK H
       clear H
       have hnb31:=NB133_134.out
       have hnc31:=NB134_133.out
       have hcz32_0:wr.cell? ⟨gb133,0,none⟩=some (.int .i64 a0_0):=(blk_cell BK133.out 0).trans rfl
       have hcz32_1:wr.cell? ⟨gb133,1,none⟩=some (.slice A0_1 l0_1.length c0_1):=(blk_cell BK133.out 1).trans rfl
       have hcz32_2:wr.cell? ⟨gb133,2,none⟩=some (.slice A0_2 l0_2.length c0_2):=(blk_cell BK133.out 2).trans rfl
       have hfz32_0:=blk_frozen BK133.out 0
       have hfz32_1:=blk_frozen BK133.out 1
       have hfz32_2:=blk_frozen BK133.out 2
       go_wp2
       repeat (go_quiet (fail);try go_wp2)
       go_loopg [51] k2 (fun kq v51 w'=>∃ (x51_3:Int),v51 = .int .i64 x51_3∧Aside0 (fleuronref27_Same.l1 kq (l0_2.length:Int) x51_3 a0_0 l0_1 l0_2 a1_0 l1_1 l1_2=some r)∧Aside0 (kq≤k2)∧Aside0 (w'.heap[gb133]?=some (.cells #[.int .i64 a0_0,(.slice A0_1 l0_1.length c0_1),(.slice A0_2 l0_2.length c0_2)] 25 (0,0)))∧Aside0 (w'.heap[gb134]?=some (.cells #[.int .i64 a1_0,(.slice A1_1 l1_1.length c1_1),(.slice A1_2 l1_2.length c1_2)] 25 (0,0)))∧Aside0 (Below w.heap.size w w'))
       case atStart=>exact ⟨(0),(by first|rfl|(simp;done)|(simp [*];done)),H',⟨Nat.le_refl _⟩,⟨by (with_reducible repeat (first|refine blk_drewN ?_ _|refine blk_drew ?_|refine blk_alloc ?_ _));exact BK133.out⟩,⟨by (with_reducible repeat (first|refine blk_drewN ?_ _|refine blk_drew ?_|refine blk_alloc ?_ _));exact BK134.out⟩,⟨by repeat (first|(with_reducible first|exact HB.out|apply below_alloc|apply pw_below_drewN|apply below_drew1|refine below_set ?_ GE133.out|refine below_set ?_ GE134.out)|exact HB.out)⟩⟩
       case round =>
        clear H'
        try clear c1
        try clear p1
        try clear q1
        try clear hx1
        try clear c2
        try clear p2
        try clear c3
        try clear c6
        try clear c6b0
        try clear c6b1
        try clear p6
        try clear c7
        try clear c7b0
        try clear c7b1
        try clear c7b2
        try clear c8
        try clear c10
        try clear c11
        try clear p13
        try clear q13
        try clear hx13
        try clear c14
        try clear c17
        try clear c18
        try clear c20
        try clear c20b0
        try clear c21
        try clear c21b0
        try clear c22
        try clear c22b0
        try clear c23
        try clear c23b0
        try clear c24
        try clear c24b0
        try clear c25
        try clear c28
        try clear c31
        try clear hcz10_0
        try clear hcz10_1
        try clear hcz10_2
        try clear hcz12_0
        try clear hcz12_1
        try clear hcz12_2
        try clear hcz13_0
        try clear hcz13_1
        try clear hcz13_2
        try clear hcz15_0
        try clear hcz15_1
        try clear hcz15_2
        try clear hcz16_0
        try clear hcz16_1
        try clear hcz16_2
        try clear hcz19_0
        try clear hcz19_1
        try clear hcz19_2
        try clear hcz26_0
        try clear hcz26_1
        try clear hcz26_2
        try clear hcz27_0
        try clear hcz27_1
        try clear hcz27_2
        try clear hcz29_0
        try clear hcz29_1
        try clear hcz29_2
        try clear hcz30_0
        try clear hcz30_1
        try clear hcz30_2
        try clear hcz32_0
        try clear hcz32_1
        try clear hcz32_2
        try clear hcz9_0
        try clear hcz9_1
        try clear hcz9_2
        try clear hfz10_0
        try clear hfz10_1
        try clear hfz10_2
        try clear hfz12_0
        try clear hfz12_1
        try clear hfz12_2
        try clear hfz13_0
        try clear hfz13_1
        try clear hfz13_2
        try clear hfz15_0
        try clear hfz15_1
        try clear hfz15_2
        try clear hfz16_0
        try clear hfz16_1
        try clear hfz16_2
        try clear hfz19_0
        try clear hfz19_1
        try clear hfz19_2
        try clear hfz26_0
        try clear hfz26_1
        try clear hfz26_2
        try clear hfz27_0
        try clear hfz27_1
        try clear hfz27_2
        try clear hfz29_0
        try clear hfz29_1
        try clear hfz29_2
        try clear hfz30_0
        try clear hfz30_1
        try clear hfz30_2
        try clear hfz32_0
        try clear hfz32_1
        try clear hfz32_2
        try clear hfz9_0
        try clear hfz9_1
        try clear hfz9_2
        try clear hx135_0
        try clear hx135_1
        try clear hx135_2
        try clear hx135_3
        try clear hx136_0
        try clear hx136_1
        try clear hx136_2
        try clear hx136_3
        try clear p135
        try clear p136
        try clear p2
        try clear q135
        try clear q136
        obtain ⟨x51_3,rfl,HA,HK3,BK133,BK134,HB⟩:=hrel
        cases gk with
        | zero=>exact absurd HA.out (by simp [fleuronref27_Same.l1])
        | succ k3 =>
         have H:=HA.out
         clear HA
         simp only [fleuronref27_Same.l1] at H
         by_cases c33:x51_3<(l0_2.length:Int)
         ·rw [if_pos c33] at H
          have c33b0:decide (x51_3<(l0_2.length:Int))=true:=decide_eq_true c33
          clear c33
          by_cases c34:0≤x51_3
          ·rw [if_pos c34] at H
           have c34b0:decide (0≤x51_3)=true:=decide_eq_true c34
           clear c34
           by_cases c35:x51_3<(l0_2.length:Int)
           ·rw [if_pos c35] at H
            have c35b0:decide (x51_3<(l0_2.length:Int))=true:=decide_eq_true c35
            clear c35
            by_cases c36:x51_3<(l1_2.length:Int)
            ·rw [if_pos c36] at H
             have c36b0:decide (x51_3<(l1_2.length:Int))=true:=decide_eq_true c36
             clear c36
             by_cases c37:(!(((rd_T46 l0_2 x51_3).f0) == ((rd_T46 l1_2 x51_3).f0)) || (!(((rd_T46 l0_2 x51_3).f1) == ((rd_T46 l1_2 x51_3).f1)) || (!(((rd_T46 l0_2 x51_3).f2) == ((rd_T46 l1_2 x51_3).f2)) || (!(((rd_T46 l0_2 x51_3).f3) == ((rd_T46 l1_2 x51_3).f3))))))=true
             ·rw [if_pos c37] at H
              have c37b0:(!(((rd_T46 l0_2 x51_3).f0) == ((rd_T46 l1_2 x51_3).f0)) || (!(((rd_T46 l0_2 x51_3).f1) == ((rd_T46 l1_2 x51_3).f1)) || (!(((rd_T46 l0_2 x51_3).f2) == ((rd_T46 l1_2 x51_3).f2)) || (!(((rd_T46 l0_2 x51_3).f3) == ((rd_T46 l1_2 x51_3).f3))))))=true:=c37
              clear c37
              obtain rfl:=Option.some.inj H
              have hnb38:=NB133_134.out
              have hnc38:=NB134_133.out
              have hcz39_0:wr.cell? ⟨gb133,0,none⟩=some (.int .i64 a0_0):=(blk_cell BK133.out 0).trans rfl
              have hcz39_1:wr.cell? ⟨gb133,1,none⟩=some (.slice A0_1 l0_1.length c0_1):=(blk_cell BK133.out 1).trans rfl
              have hcz39_2:wr.cell? ⟨gb133,2,none⟩=some (.slice A0_2 l0_2.length c0_2):=(blk_cell BK133.out 2).trans rfl
              have hfz39_0:=blk_frozen BK133.out 0
              have hfz39_1:=blk_frozen BK133.out 1
              have hfz39_2:=blk_frozen BK133.out 2
              have p137:0≤(x51_3:Int):=of_decide_eq_true (by first|(with_reducible assumption)|assumption)
              have q137:x51_3<(l0_2.length:Int):=of_decide_eq_true (by first|(with_reducible assumption)|assumption)
              obtain ⟨ad137,e137,hx137_0,hx137_1,hx137_2,hx137_3⟩:=at_T46 HR0_2.out x51_3 p137 q137
              cases e137
              replace hx137_0:=(HB.out.cell (World.block_lt_of_cell? w _ hx137_0)).trans hx137_0
              replace hx137_1:=(HB.out.cell (World.block_lt_of_cell? w _ hx137_1)).trans hx137_1
              replace hx137_2:=(HB.out.cell (World.block_lt_of_cell? w _ hx137_2)).trans hx137_2
              replace hx137_3:=(HB.out.cell (World.block_lt_of_cell? w _ hx137_3)).trans hx137_3
              replace p137:=eq_true p137
              replace q137:=eq_true q137
              have hcz40_0:wr.cell? ⟨gb134,0,none⟩=some (.int .i64 a1_0):=(blk_cell BK134.out 0).trans rfl
              have hcz40_1:wr.cell? ⟨gb134,1,none⟩=some (.slice A1_1 l1_1.length c1_1):=(blk_cell BK134.out 1).trans rfl
              have hcz40_2:wr.cell? ⟨gb134,2,none⟩=some (.slice A1_2 l1_2.length c1_2):=(blk_cell BK134.out 2).trans rfl
              have hfz40_0:=blk_frozen BK134.out 0
              have hfz40_1:=blk_frozen BK134.out 1
              have hfz40_2:=blk_frozen BK134.out 2
              have p138:0≤(x51_3:Int):=of_decide_eq_true (by first|(with_reducible assumption)|assumption)
              have q138:x51_3<(l1_2.length:Int):=of_decide_eq_true (by first|(with_reducible assumption)|assumption)
              obtain ⟨ad138,e138,hx138_0,hx138_1,hx138_2,hx138_3⟩:=at_T46 HR1_2.out x51_3 p138 q138
              cases e138
              replace hx138_0:=(HB.out.cell (World.block_lt_of_cell? w _ hx138_0)).trans hx138_0
              replace hx138_1:=(HB.out.cell (World.block_lt_of_cell? w _ hx138_1)).trans hx138_1
              replace hx138_2:=(HB.out.cell (World.block_lt_of_cell? w _ hx138_2)).trans hx138_2
              replace hx138_3:=(HB.out.cell (World.block_lt_of_cell? w _ hx138_3)).trans hx138_3
              replace p138:=eq_true p138
              replace q138:=eq_true q138
              go_wp2
              repeat (go_quiet (fail);try go_wp2)
              go_ret
              exact ⟨by first|rfl|(simp [errW_none,errW_some] <;> rfl)|(simp [*,errW_none,errW_some] <;> rfl),by repeat (first|(with_reducible first|exact HB.out|apply below_alloc|apply pw_below_drewN|apply below_drew1|refine below_set ?_ GE133.out|refine below_set ?_ GE134.out)|exact HB.out)⟩
             ·rw [if_neg c37] at H
              have c37b0:(!(((rd_T46 l0_2 x51_3).f0) == ((rd_T46 l1_2 x51_3).f0)) || (!(((rd_T46 l0_2 x51_3).f1) == ((rd_T46 l1_2 x51_3).f1)) || (!(((rd_T46 l0_2 x51_3).f2) == ((rd_T46 l1_2 x51_3).f2)) || (!(((rd_T46 l0_2 x51_3).f3) == ((rd_T46 l1_2 x51_3).f3))))))=false:=by simpa using c37
              clear c37
              have H':=aK H
              clear H
              have hnb41:=NB133_134.out
              have hnc41:=NB134_133.out
              have hcz42_0:wr.cell? ⟨gb133,0,none⟩=some (.int .i64 a0_0):=(blk_cell BK133.out 0).trans rfl
              have hcz42_1:wr.cell? ⟨gb133,1,none⟩=some (.slice A0_1 l0_1.length c0_1):=(blk_cell BK133.out 1).trans rfl
              have hcz42_2:wr.cell? ⟨gb133,2,none⟩=some (.slice A0_2 l0_2.length c0_2):=(blk_cell BK133.out 2).trans rfl
              have hfz42_0:=blk_frozen BK133.out 0
              have hfz42_1:=blk_frozen BK133.out 1
              have hfz42_2:=blk_frozen BK133.out 2
              have p137:0≤(x51_3:Int):=of_decide_eq_true (by first|(with_reducible assumption)|assumption)
              have q137:x51_3<(l0_2.length:Int):=of_decide_eq_true (by first|(with_reducible assumption)|assumption)
              obtain ⟨ad137,e137,hx137_0,hx137_1,hx137_2,hx137_3⟩:=at_T46 HR0_2.out x51_3 p137 q137
              cases e137
              replace hx137_0:=(HB.out.cell (World.block_lt_of_cell? w _ hx137_0)).trans hx137_0
              replace hx137_1:=(HB.out.cell (World.block_lt_of_cell? w _ hx137_1)).trans hx137_1
              replace hx137_2:=(HB.out.cell (World.block_lt_of_cell? w _ hx137_2)).trans hx137_2
              replace hx137_3:=(HB.out.cell (World.block_lt_of_cell? w _ hx137_3)).trans hx137_3
              replace p137:=eq_true p137
              replace q137:=eq_true q137
              have hcz43_0:wr.cell? ⟨gb134,0,none⟩=some (.int .i64 a1_0):=(blk_cell BK134.out 0).trans rfl
              have hcz43_1:wr.cell? ⟨gb134,1,none⟩=some (.slice A1_1 l1_1.length c1_1):=(blk_cell BK134.out 1).trans rfl
              have hcz43_2:wr.cell? ⟨gb134,2,none⟩=some (.slice A1_2 l1_2.length c1_2):=(blk_cell BK134.out 2).trans rfl
              have hfz43_0:=blk_frozen BK134.out 0
              have hfz43_1:=blk_frozen BK134.out 1
              have hfz43_2:=blk_frozen BK134.out 2
              have p138:0≤(x51_3:Int):=of_decide_eq_true (by first|(with_reducible assumption)|assumption)
              have q138:x51_3<(l1_2.length:Int):=of_decide_eq_true (by first|(with_reducible assumption)|assumption)
              obtain ⟨ad138,e138,hx138_0,hx138_1,hx138_2,hx138_3⟩:=at_T46 HR1_2.out x51_3 p138 q138
              cases e138
              replace hx138_0:=(HB.out.cell (World.block_lt_of_cell? w _ hx138_0)).trans hx138_0
              replace hx138_1:=(HB.out.cell (World.block_lt_of_cell? w _ hx138_1)).trans hx138_1
              replace hx138_2:=(HB.out.cell (World.block_lt_of_cell? w _ hx138_2)).trans hx138_2
              replace hx138_3:=(HB.out.cell (World.block_lt_of_cell? w _ hx138_3)).trans hx138_3
              replace p138:=eq_true p138
              replace q138:=eq_true q138
              go_wp2
              repeat (go_quiet (fail);try go_wp2)
              go_roundg k3
              case measure=>have:=HJ2.out;have:=HK2.out;have:=HK3.out;omega
              case rel=>exact ⟨(wrap64 (x51_3+1)),(by first|rfl|(simp;done)|(simp [*];done)),H',⟨by have:=HJ2.out;have:=HK2.out;have:=HK3.out;omega⟩,⟨by (with_reducible repeat (first|refine blk_drewN ?_ _|refine blk_drew ?_|refine blk_alloc ?_ _));exact BK133.out⟩,⟨by (with_reducible repeat (first|refine blk_drewN ?_ _|refine blk_drew ?_|refine blk_alloc ?_ _));exact BK134.out⟩,⟨by repeat (first|(with_reducible first|exact HB.out|apply below_alloc|apply pw_below_drewN|apply below_drew1|refine below_set ?_ GE133.out|refine below_set ?_ GE134.out)|exact HB.out)⟩⟩
            ·rw [if_neg c36] at H
             exact absurd H (by simp)
           ·rw [if_neg c35] at H
            exact absurd H (by simp)
          ·rw [if_neg c34] at H
           exact absurd H (by simp)
         ·rw [if_neg c33] at H
          have c33b0:decide (x51_3<(l0_2.length:Int))=false:=decide_eq_false c33
          clear c33
          obtain rfl:=Option.some.inj H
          go_wp2
          repeat (go_quiet (fail);try go_wp2)
          go_ret
          exact ⟨by first|rfl|(simp [errW_none,errW_some] <;> rfl)|(simp [*,errW_none,errW_some] <;> rfl),by repeat (first|(with_reducible first|exact HB.out|apply below_alloc|apply pw_below_drewN|apply below_drew1|refine below_set ?_ GE133.out|refine below_set ?_ GE134.out)|exact HB.out)⟩
def api_CharMetric_39.f (l0:List S41):Option (List S41):=if l0.length<4398046511104 then some l0 else none
set_option maxHeartbeats 4000000 in
theorem api_CharMetric_39.calls (A0 : Option Addr) (c0 : Nat) (l0 : List S41) (r : List S41) (w : World) (hr0 : Kd.C k41 w A0 l0.length l0) (hc0 : l0.length ≤ c0) (h : api_CharMetric_39.f l0 = some r) :
  Calls Try.prog 39 #[.slice A0 l0.length c0] w fun e w'=>∃ v0_:Value,e = .returned (v0_)∧Kd.R k41 41 w' w.heap.size (fun _=>True) v0_ r∧Below w.heap.size w w':=by
 unfold api_CharMetric_39.f at h
 by_cases hl:l0.length<4398046511104
 ·rw [if_pos hl] at h
  obtain rfl:l0=r:=Option.some.inj h
  have hnil:=fun (V:World) (A0:Option Addr) (n c:Nat)=>Lib.run_eql_slice_nil (P:=Try.prog) V 22 41 A0 n c 0 0 Try.underlying22
  have HR0:=aK hr0
  have HL:=aK hl
  clear hr0 h hl
  have HB:=aK (Below.refl w.heap.size w)
  cases A0 with
  | none =>
   have he:l0=[]:=by
    rcases Nat.eq_zero_or_pos l0.length with h0|h0
    ·exact List.length_eq_zero_iff.mp h0
    ·obtain ⟨ad,e,_⟩:=HR0.out.2.2 h0
     cases e
   subst he
   go_enter Try.func39,Try.ntmps39
   go_wp2
   go_ret
   exact ⟨_,rfl,Kd.R_nil _ _ _ _ _,Below.refl _ _⟩
  | some ad =>
   go_enter Try.func39,Try.ntmps39
   go_wp2_with (first|((with_reducible refine gate_dst (N:=5) rfl ?_);refine Kd.R_lit k41 _ 41 ?hg (N:=5) ?hd (xs:=([]:List S41)) (inner:=[]) (ok:=fun _=>True) (okp:=fun _=>True) ?hr ?hp (fun _ hk=>hk) trivial (Below.refl _ _) (Nat.le_refl _) (by simp) ?_;(case hd=>rfl);(case hg=>rfl);(case hr=>first|(go_simp;done)|(go_simp;rfl));(case hp=>exact (Reps.none _ _));intro v187 w3 ho4 hb hg_ hnew_;clear hg_ hnew_;have n0_:=aK (Kd.R_lower ho4 (below_size HB.out));have n1_:=aK (below_step HB.out hb);clear HB;have HO188:=n0_;have HB:=n1_;clear n0_ n1_;clear hb ho4)|((with_reducible refine gate_builtin (b:=.append) (xs:=#[.tmp 5,.tmp 6]) rfl ?_);at_builtin;refine Kd.R_append_rows k41 (w0:=w) w.heap.size rfl (.tmp 5) (.tmp 6) 22 41 (.agg #[(.int .i64 0),(.int .i64 0),(.int .i64 0),(.int .i64 0)]) 32 rfl Try.underlying22 info41 rfl (by decide) (by omega) v187 [] l0 _ _ _ (fun _=>True) (fun _=>False) rfl rfl ?aO ?aR (fun _ _ h=>h) (fun _ h=>h.elim) ?aF ?aB ?aS ?aL ?_;(case aR=>repeat (first|exact (Kd.C_below HR0.out HB.out)|(with_reducible refine Kd.C_alloc ?_ _)|(with_reducible refine Kd.C_drewN ?_ _)|(with_reducible refine Kd.C_drew ?_)));(case aB=>exact (by repeat (first|(with_reducible first|exact HB.out|apply below_alloc|apply pw_below_drewN|apply below_drew1)|exact HB.out)));(case aF=>exact (fun _ _=>trivial));(case aO=>exact (by (with_reducible repeat (first|apply Kd.R_alloc|apply Kd.R_drewN|apply Kd.R_drew));exact HO188.out));(case aS=>exact (below_size (by repeat (first|(with_reducible first|exact HB.out|apply below_alloc|apply pw_below_drewN|apply below_drew1)|exact HB.out))));(case aL=>have:=HL.out;simp only [List.length_nil];omega);intro v190 w5 ho hb hg hat;have n0_:=aK (hb);have n1_:=aK (ho);clear HB;clear HO188;have HB:=n0_;have HO191:=n1_;clear n0_ n1_;clear ho hb hg hat))
   go_ret
   exact ⟨_,rfl,by (with_reducible repeat (first|apply Kd.R_alloc|apply Kd.R_drewN|apply Kd.R_drew));exact HO191.out,by repeat (first|(with_reducible first|exact HB.out|apply below_alloc|apply pw_below_drewN|apply below_drew1)|exact HB.out)⟩
 ·rw [if_neg hl] at h
  exact absurd h (by simp)
def api_LigRule_40.f (l0:List S46):Option (List S46):=if l0.length<4398046511104 then some l0 else none
set_option maxHeartbeats 4000000 in
theorem api_LigRule_40.calls (A0 : Option Addr) (c0 : Nat) (l0 : List S46) (r : List S46) (w : World) (hr0 : Kd.C k46 w A0 l0.length l0) (hc0 : l0.length ≤ c0) (h : api_LigRule_40.f l0 = some r) :
  Calls Try.prog 40 #[.slice A0 l0.length c0] w fun e w'=>∃ v0_:Value,e = .returned (v0_)∧Kd.R k46 46 w' w.heap.size (fun _=>True) v0_ r∧Below w.heap.size w w':=by
 unfold api_LigRule_40.f at h
 by_cases hl:l0.length<4398046511104
 ·rw [if_pos hl] at h
  obtain rfl:l0=r:=Option.some.inj h
  have hnil:=fun (V:World) (A0:Option Addr) (n c:Nat)=>Lib.run_eql_slice_nil (P:=Try.prog) V 23 46 A0 n c 0 0 Try.underlying23
  have HR0:=aK hr0
  have HL:=aK hl
  clear hr0 h hl
  have HB:=aK (Below.refl w.heap.size w)
  cases A0 with
  | none =>
   have he:l0=[]:=by
    rcases Nat.eq_zero_or_pos l0.length with h0|h0
    ·exact List.length_eq_zero_iff.mp h0
    ·obtain ⟨ad,e,_⟩:=HR0.out.2.2 h0
     cases e
   subst he
   go_enter Try.func40,Try.ntmps40
   go_wp2
   go_ret
   exact ⟨_,rfl,Kd.R_nil _ _ _ _ _,Below.refl _ _⟩
  | some ad =>
   go_enter Try.func40,Try.ntmps40
   go_wp2_with (first|((with_reducible refine gate_dst (N:=5) rfl ?_);refine Kd.R_lit k46 _ 46 ?hg (N:=5) ?hd (xs:=([]:List S46)) (inner:=[]) (ok:=fun _=>True) (okp:=fun _=>True) ?hr ?hp (fun _ hk=>hk) trivial (Below.refl _ _) (Nat.le_refl _) (by simp) ?_;(case hd=>rfl);(case hg=>rfl);(case hr=>first|(go_simp;done)|(go_simp;rfl));(case hp=>exact (Reps.none _ _));intro v187 w3 ho4 hb hg_ hnew_;clear hg_ hnew_;have n0_:=aK (Kd.R_lower ho4 (below_size HB.out));have n1_:=aK (below_step HB.out hb);clear HB;have HO188:=n0_;have HB:=n1_;clear n0_ n1_;clear hb ho4)|((with_reducible refine gate_builtin (b:=.append) (xs:=#[.tmp 5,.tmp 6]) rfl ?_);at_builtin;refine Kd.R_append_rows k46 (w0:=w) w.heap.size rfl (.tmp 5) (.tmp 6) 23 46 (.agg #[(.int .i64 0),(.int .i64 0),(.int .i64 0),(.int .i64 0)]) 32 rfl Try.underlying23 info46 rfl (by decide) (by omega) v187 [] l0 _ _ _ (fun _=>True) (fun _=>False) rfl rfl ?aO ?aR (fun _ _ h=>h) (fun _ h=>h.elim) ?aF ?aB ?aS ?aL ?_;(case aR=>repeat (first|exact (Kd.C_below HR0.out HB.out)|(with_reducible refine Kd.C_alloc ?_ _)|(with_reducible refine Kd.C_drewN ?_ _)|(with_reducible refine Kd.C_drew ?_)));(case aB=>exact (by repeat (first|(with_reducible first|exact HB.out|apply below_alloc|apply pw_below_drewN|apply below_drew1)|exact HB.out)));(case aF=>exact (fun _ _=>trivial));(case aO=>exact (by (with_reducible repeat (first|apply Kd.R_alloc|apply Kd.R_drewN|apply Kd.R_drew));exact HO188.out));(case aS=>exact (below_size (by repeat (first|(with_reducible first|exact HB.out|apply below_alloc|apply pw_below_drewN|apply below_drew1)|exact HB.out))));(case aL=>have:=HL.out;simp only [List.length_nil];omega);intro v190 w5 ho hb hg hat;have n0_:=aK (hb);have n1_:=aK (ho);clear HB;clear HO188;have HB:=n0_;have HO191:=n1_;clear n0_ n1_;clear ho hb hg hat))
   go_ret
   exact ⟨_,rfl,by (with_reducible repeat (first|apply Kd.R_alloc|apply Kd.R_drewN|apply Kd.R_drew));exact HO191.out,by repeat (first|(with_reducible first|exact HB.out|apply below_alloc|apply pw_below_drewN|apply below_drew1)|exact HB.out)⟩
 ·rw [if_neg hl] at h
  exact absurd h (by simp)
end Go.Proofs.Ytoemkemmiikhlaa.PC2

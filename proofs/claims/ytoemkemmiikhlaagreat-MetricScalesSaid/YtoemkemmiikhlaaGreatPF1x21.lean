import Derived.Test.YtoemkemmiikhlaaGreatPF1x0
import Derived.Test.YtoemkemmiikhlaaGreatPF1x19
import Derived.Test.YtoemkemmiikhlaaGreatPF1x20
namespace Go.Proofs.YtoemkemmiikhlaaGreat.PF1
open Go.RowKit Go.Proofs.YtoemkemmiikhlaaGreatW.PrintWords Go.Proofs.YtoemkemmiikhlaaGreatW.PrintLast Go.Proofs.YtoemkemmiikhlaaGreatW.PrintMore
attribute [local go_sem] max2_int min2_int max_two min_two max_three min_three max_four min_four
set_option linter.unusedVariables false
set_option linter.unusedSimpArgs false
def fleuronref27_Valid.l0 : Nat → List (S50) → Int → Int → Int → List (S50) → List (S45) → Option (Bool)
 | 0,_,_,_,_,_,_=>none
 | k+1,x6,x7,x8,x157000,x157001,x157002=>if x8<x7 then (if 0≤x8 then (if x8<(x6.length:Int) then ((fleuronref27_char.f ((rd_T50 x6 x8).f0) ((rd_T50 x6 x8).f1) ((rd_T50 x6 x8).f2) ((rd_T50 x6 x8).f3)).bind fun t159=>(if t159=true then (if x8>0 then (if 0≤(wrap64 (x8-1)) then (if (wrap64 (x8-1))<(x157001.length:Int) then (if ((rd_T50 x157001 (wrap64 (x8-1))).f0)≥((rd_T50 x6 x8).f0) then (some false) else (fleuronref27_Valid.l0 k x6 x7 (wrap64 (x8+1)) x157000 x157001 x157002)) else (none)) else (none)) else (fleuronref27_Valid.l0 k x6 x7 (wrap64 (x8+1)) x157000 x157001 x157002)) else (some false))) else (none)) else (none)) else ((fleuronref27_Size.f x157000).bind fun t161=>(if t161=true then (if (x157001.length:Int)≤256 then ((fleuronref27_Rules.f k x157002).bind fun t162=>(some t162)) else (some false)) else (some false)))
def fleuronref27_Valid.f (k:Nat) (a0_0:Int) (l0_1:List (S50)) (l0_2:List (S45)):Option (Bool):=fleuronref27_Valid.l0 k l0_1 (l0_1.length:Int) 0 a0_0 l0_1 l0_2
theorem fleuronref27_Valid.mono_l : ∀ k, (∀ y0 y1 y2 y3 y4 y5, LeO (fleuronref27_Valid.l0 k y0 y1 y2 y3 y4 y5) (fleuronref27_Valid.l0 (k + 1) y0 y1 y2 y3 y4 y5))
 | 0=>fun _ _ _ _ _ _ r h=>by simp [fleuronref27_Valid.l0] at h
 | k+1=>by
  have ih0:=fleuronref27_Valid.mono_l k
  ·intro y0 y1 y2 y3 y4 y5
   unfold fleuronref27_Valid.l0
   repeat' first
   | (with_reducible exact ih0 _ _ _ _ _ _)
   | (with_reducible exact fleuronref27_Rules.mono _ _)
   | (with_reducible exact LeO.refl _)
   | (with_reducible exact LeO.none _)
   | (with_reducible refine LeO.ite ?_ ?_)
   | (with_reducible refine LeO.bind ?_ (fun _=>?_))
   | exact ih0 _ _ _ _ _ _
   | exact fleuronref27_Rules.mono _ _
   | exact LeO.none _
   | refine LeO.ite ?_ ?_
   | refine LeO.bind ?_ (fun _=>?_)
theorem fleuronref27_Valid.mono : ∀ a0 a1 a2 k,LeO (fleuronref27_Valid.f k a0 a1 a2) (fleuronref27_Valid.f (k+1) a0 a1 a2):=by
 intro a0 a1 a2 k
 have ih0:=fleuronref27_Valid.mono_l k
 unfold fleuronref27_Valid.f
 repeat' first
   | (with_reducible exact ih0 _ _ _ _ _ _)
   | (with_reducible exact fleuronref27_Rules.mono _ _)
   | (with_reducible exact LeO.refl _)
   | (with_reducible exact LeO.none _)
   | (with_reducible refine LeO.ite ?_ ?_)
   | (with_reducible refine LeO.bind ?_ (fun _=>?_))
   | exact ih0 _ _ _ _ _ _
   | exact fleuronref27_Rules.mono _ _
   | exact LeO.none _
   | refine LeO.ite ?_ ?_
   | refine LeO.bind ?_ (fun _=>?_)
def fleuronref27_Valid.T4:Bool×List (List Nat×List Nat):=(true,[([],[]),([0],[0]),([1],[1]),([2,1],[2]),([3],[3]),([4,3],[3,4]),([5,3,3],[3,5]),([6],[6]),([7,6],[6,7]),([6],[6]),([9,6],[6,9]),([8,10,6],[6,8,10]),([11,6],[6,11]),([12,6],[6,12]),([6],[6]),([14,6],[6,14]),([13,15,6],[6,13,15]),([6,16,3],[3,6,16]),([3,17],[3,17])])
def fleuronref27_Valid.B4:List Nat:=[0,1,3,7,15,31,63,127,255,127,639,2047,4095,8191,127,16511,65535,131071,262143]
theorem fleuronref27_Valid.tab4:rtab .any (opsOf Tryz.f14 4)=fleuronref27_Valid.T4:=by kernel_rfl
theorem fleuronref27_Valid.bits4:waitsOk fleuronref27_Valid.T4.2 fleuronref27_Valid.B4=true:=by kernel_rfl
set_option maxHeartbeats 8000000 in
set_option maxRecDepth 100000 in
theorem fleuronref27_Valid.calls (k : Nat) (a0_0 : Int) (A0_1 : Option Addr) (c0_1 : Nat) (l0_1 : List (S50)) (A0_2 : Option Addr) (c0_2 : Nat) (l0_2 : List (S45)) (r : Bool) (w : World) (hr0_1 : Kd.C k50 w A0_1 l0_1.length l0_1) (hc0_1 : l0_1.length ≤ c0_1) (hr0_2 : Kd.C k45 w A0_2 l0_2.length l0_2) (hc0_2 : l0_2.length ≤ c0_2) (h : fleuronref27_Valid.f k a0_0 l0_1 l0_2 = some r) :
  Calls Tryz.prog 14 #[.agg #[.int .i64 a0_0,.slice A0_1 l0_1.length c0_1,.slice A0_2 l0_2.length c0_2]] w fun e w'=>e = .returned (.bool r)∧Below w.heap.size w w':=by
 have hu25:=Tryz.underlying25
 have hu50:=Tryz.underlying50
 have HR0_1:=aK hr0_1
 have HC0_1:=aK hc0_1
 clear hr0_1 hc0_1
 have HR0_2:=aK hr0_2
 have HC0_2:=aK hc0_2
 clear hr0_2 hc0_2
 have HB:=aK (Below.refl w.heap.size w)
 have H:(fleuronref27_Valid.l0 k l0_1 (l0_1.length:Int) 0 a0_0 l0_1 l0_2)=some r:=h
 clear h
 have H':=aK H
 clear H
 go_enter Tryz.func14,Tryz.ntmps14
 go_wp2_with (first|((with_reducible refine gate_dst (N:=1) rfl ?_);refine box_event ?hg (N:=1) ?hd (cs:=#[.int .i64 a0_0,.slice A0_1 l0_1.length c0_1,.slice A0_2 l0_2.length c0_2]) (t:=25) ?hr ?_;(case hd=>rfl);(case hg=>rfl);(case hr=>first|(go_simp;done)|(go_simp;rfl));intro gb156 hg w2 hbox hb;have n0_:=aK (below_step (by repeat (first|(with_reducible first|exact HB.out|apply below_alloc|apply pw_below_drewN|apply below_drew1)|exact HB.out)) hb);have n1_:=aK (hbox);have n2_:=aK ((by rw [hg];exact (below_size (by repeat (first|(with_reducible first|exact HB.out|apply below_alloc|apply pw_below_drewN|apply below_drew1)|exact HB.out))):w.heap.size≤gb156));have n3_:=n2_;clear HB;have HB:=n0_;have BK156:=n1_;have GW156:=n2_;have GE156:=n3_;clear n0_ n1_ n2_ n3_;clear hb hbox hg;have hcz3_0:w2.cell? ⟨gb156,0,none⟩=some (.int .i64 a0_0):=(blk_cell BK156.out 0).trans rfl;have hcz3_1:w2.cell? ⟨gb156,1,none⟩=some (.slice A0_1 l0_1.length c0_1):=(blk_cell BK156.out 1).trans rfl;have hcz3_2:w2.cell? ⟨gb156,2,none⟩=some (.slice A0_2 l0_2.length c0_2):=(blk_cell BK156.out 2).trans rfl;have hfz3_0:=blk_frozen BK156.out 0;have hfz3_1:=blk_frozen BK156.out 1;have hfz3_2:=blk_frozen BK156.out 2))
 go_loopg [8] k (fun kq v8 w'=>∃ (x8_1:Int),v8 = .int .i64 x8_1∧Aside0 (fleuronref27_Valid.l0 kq l0_1 (l0_1.length:Int) x8_1 a0_0 l0_1 l0_2=some r)∧Aside0 (kq≤k)∧Aside0 (w'.heap[gb156]?=some (.cells #[.int .i64 a0_0,(.slice A0_1 l0_1.length c0_1),(.slice A0_2 l0_2.length c0_2)] 25 (0,0)))∧Aside0 (Below w.heap.size w w'))
 case atStart=>exact ⟨(0),(by first|rfl|(simp;done)|(simp [*];done)),H',⟨Nat.le_refl _⟩,⟨by (with_reducible repeat (first|refine blk_drewN ?_ _|refine blk_drew ?_|refine blk_alloc ?_ _));exact BK156.out⟩,⟨by repeat (first|(with_reducible first|exact HB.out|apply below_alloc|apply pw_below_drewN|apply below_drew1|refine below_set ?_ GE156.out)|exact HB.out)⟩⟩
 case round =>
  clear H'
  try clear c1
  try clear p2
  try clear hcz3_0
  try clear hcz3_1
  try clear hcz3_2
  try clear hfz3_0
  try clear hfz3_1
  try clear hfz3_2
  obtain ⟨x8_1,rfl,HA,HK1,BK156,HB⟩:=hrel
  cases gk with
  | zero=>exact absurd HA.out (by simp [fleuronref27_Valid.l0])
  | succ k1 =>
   have H:=HA.out
   clear HA
   simp only [fleuronref27_Valid.l0] at H
   by_cases c4:x8_1<(l0_1.length:Int)
   ·rw [if_pos c4] at H
    have c4b0:decide (x8_1<(l0_1.length:Int))=true:=decide_eq_true c4
    clear c4
    by_cases c5:0≤x8_1
    ·rw [if_pos c5] at H
     have c5b0:decide (0≤x8_1)=true:=decide_eq_true c5
     clear c5
     by_cases c6:x8_1<(l0_1.length:Int)
     ·rw [if_pos c6] at H
      have c6b0:decide (x8_1<(l0_1.length:Int))=true:=decide_eq_true c6
      clear c6
      replace H:=Option.bind_eq_some_iff.mp H
      obtain ⟨t159,A70,H⟩:=H
      replace H:(if t159=true then (if x8_1>0 then (if 0≤(wrap64 (x8_1-1)) then (if (wrap64 (x8_1-1))<(l0_1.length:Int) then (if ((rd_T50 l0_1 (wrap64 (x8_1-1))).f0)≥((rd_T50 l0_1 x8_1).f0) then (some false) else (fleuronref27_Valid.l0 k1 l0_1 (l0_1.length:Int) (wrap64 (x8_1+1)) a0_0 l0_1 l0_2)) else (none)) else (none)) else (fleuronref27_Valid.l0 k1 l0_1 (l0_1.length:Int) (wrap64 (x8_1+1)) a0_0 l0_1 l0_2)) else (some false))=some r:=H
      have A7:=aK A70
      clear A70
      by_cases c8:t159=true
      ·subst c8
       have H1:(if x8_1>0 then (if 0≤(wrap64 (x8_1-1)) then (if (wrap64 (x8_1-1))<(l0_1.length:Int) then (if ((rd_T50 l0_1 (wrap64 (x8_1-1))).f0)≥((rd_T50 l0_1 x8_1).f0) then (some false) else (fleuronref27_Valid.l0 k1 l0_1 (l0_1.length:Int) (wrap64 (x8_1+1)) a0_0 l0_1 l0_2)) else (none)) else (none)) else (fleuronref27_Valid.l0 k1 l0_1 (l0_1.length:Int) (wrap64 (x8_1+1)) a0_0 l0_1 l0_2))=some r:=by rw [if_pos rfl] at H;exact H
       clear H
       have H:=H1
       clear H1
       by_cases c9:x8_1>0
       ·rw [if_pos c9] at H
        have c9b0:decide (0<x8_1)=true:=decide_eq_true c9
        clear c9
        obtain ⟨ji10,hji10⟩ : ∃ j_:Int,(wrap64 (x8_1-1))=j_:=⟨_,rfl⟩
        replace H:(if 0≤(ji10) then (if (ji10)<(l0_1.length:Int) then (if ((rd_T50 l0_1 (ji10)).f0)≥((rd_T50 l0_1 x8_1).f0) then (some false) else (fleuronref27_Valid.l0 k1 l0_1 (l0_1.length:Int) (wrap64 (x8_1+1)) a0_0 l0_1 l0_2)) else (none)) else (none))=some r:=by first|(rw [hji10] at H;exact H)|(simp only [hji10] at H ⊢;exact H)
        (try rw [hji10] at A7)
        have hji10w:(IntKind.i64.wrap (x8_1-1))=ji10:=(i64_w _).trans hji10
        by_cases c11:0≤(ji10)
        ·rw [if_pos c11] at H
         have c11b0:decide (0≤(ji10))=true:=decide_eq_true c11
         clear c11
         by_cases c12:(ji10)<(l0_1.length:Int)
         ·rw [if_pos c12] at H
          have c12b0:decide ((ji10)<(l0_1.length:Int))=true:=decide_eq_true c12
          clear c12
          by_cases c13:((rd_T50 l0_1 (ji10)).f0)≥((rd_T50 l0_1 x8_1).f0)
          ·rw [if_pos c13] at H
           have c13b0:decide (((rd_T50 l0_1 x8_1).f0)≤((rd_T50 l0_1 (ji10)).f0))=true:=decide_eq_true c13
           clear c13
           obtain rfl:=Option.some.inj H
           have p157:0≤(x8_1:Int):=of_decide_eq_true (by first|(with_reducible assumption)|assumption)
           have q157:x8_1<(l0_1.length:Int):=of_decide_eq_true (by first|(with_reducible assumption)|assumption)
           obtain ⟨ad157,e157,hx157_0,hx157_1,hx157_2,hx157_3⟩:=at_T50 HR0_1.out x8_1 p157 q157
           cases e157
           replace hx157_0:=(HB.out.cell (World.block_lt_of_cell? w _ hx157_0)).trans hx157_0
           replace hx157_1:=(HB.out.cell (World.block_lt_of_cell? w _ hx157_1)).trans hx157_1
           replace hx157_2:=(HB.out.cell (World.block_lt_of_cell? w _ hx157_2)).trans hx157_2
           replace hx157_3:=(HB.out.cell (World.block_lt_of_cell? w _ hx157_3)).trans hx157_3
           replace p157:=eq_true p157
           replace q157:=eq_true q157
           try go_wp2_with (first|((with_reducible refine gate_dst (N:=4) rfl ?_);refine box_event ?hg (N:=4) ?hd (cs:=#[.int .i64 0,.int .i64 0,.int .i64 0,.int .i64 0]) (t:=50) ?hr ?_;(case hd=>rfl);(case hg=>rfl);(case hr=>first|(go_simp;done)|(go_simp;rfl));intro gb158 hg w14 hbox hb;have n0_:=aK (blk_below (g:=gb156) (o:=.cells #[.int .i64 a0_0,.slice (some ad157) l0_1.length c0_1,.slice A0_2 l0_2.length c0_2] 25 (0,0)) (by (with_reducible repeat (first|refine blk_drewN ?_ _|refine blk_drew ?_|refine blk_alloc ?_ _));exact BK156.out) hb);have n1_:=aK (below_step (by repeat (first|(with_reducible first|exact HB.out|apply below_alloc|apply pw_below_drewN|apply below_drew1|refine below_set ?_ GE156.out)|exact HB.out)) hb);have n2_:=aK (hbox);have n3_:=aK ((by rw [hg];exact (below_size (by repeat (first|(with_reducible first|exact HB.out|apply below_alloc|apply pw_below_drewN|apply below_drew1|refine below_set ?_ GE156.out)|exact HB.out))):w.heap.size≤gb158));have n4_:=n3_;have n5_:=aK ((by rw [hg];exact Nat.ne_of_lt (blk_lt (g:=gb156) (o:=.cells #[.int .i64 a0_0,.slice (some ad157) l0_1.length c0_1,.slice A0_2 l0_2.length c0_2] 25 (0,0)) (by (with_reducible repeat (first|refine blk_drewN ?_ _|refine blk_drew ?_|refine blk_alloc ?_ _));exact BK156.out)):gb156≠gb158));have n6_:=aK (Ne.symm n5_.out);clear BK156;clear HB;have BK156:=n0_;have HB:=n1_;have BK158:=n2_;have GW158:=n3_;have GE158:=n4_;have NB156_158:=n5_;have NB158_156:=n6_;clear n0_ n1_ n2_ n3_ n4_ n5_ n6_;clear hb hbox hg;have hnb15:=NB158_156.out;have hnc15:=NB156_158.out;have hcz16_0:w14.cell? ⟨gb158,0,none⟩=some (.int .i64 0):=(blk_cell BK158.out 0).trans rfl;have hcz16_1:w14.cell? ⟨gb158,1,none⟩=some (.int .i64 0):=(blk_cell BK158.out 1).trans rfl;have hcz16_2:w14.cell? ⟨gb158,2,none⟩=some (.int .i64 0):=(blk_cell BK158.out 2).trans rfl;have hcz16_3:w14.cell? ⟨gb158,3,none⟩=some (.int .i64 0):=(blk_cell BK158.out 3).trans rfl;have hfz16_0:=blk_frozen BK158.out 0;have hfz16_1:=blk_frozen BK158.out 1;have hfz16_2:=blk_frozen BK158.out 2;have hfz16_3:=blk_frozen BK158.out 3))
           have n0_:Aside0 (((((w14.setCell ⟨gb158,0,none⟩ (.int .i64 ((rd_T50 l0_1 x8_1).f0))).setCell ⟨gb158,1,none⟩ (.int .i64 ((rd_T50 l0_1 x8_1).f1))).setCell ⟨gb158,2,none⟩ (.int .i64 ((rd_T50 l0_1 x8_1).f2))).setCell ⟨gb158,3,none⟩ (.int .i64 ((rd_T50 l0_1 x8_1).f3))).heap[gb156]?=some (.cells #[.int .i64 a0_0,.slice (some ad157) l0_1.length c0_1,.slice A0_2 l0_2.length c0_2] 25 (0,0))):=⟨by (with_reducible repeat (first|refine blk_drewN ?_ _|refine blk_drew ?_|refine blk_alloc ?_ _));refine blk_far ?_ NB156_158.out _;(with_reducible repeat (first|refine blk_drewN ?_ _|refine blk_drew ?_|refine blk_alloc ?_ _));refine blk_far ?_ NB156_158.out _;(with_reducible repeat (first|refine blk_drewN ?_ _|refine blk_drew ?_|refine blk_alloc ?_ _));refine blk_far ?_ NB156_158.out _;(with_reducible repeat (first|refine blk_drewN ?_ _|refine blk_drew ?_|refine blk_alloc ?_ _));refine blk_far ?_ NB156_158.out _;(with_reducible repeat (first|refine blk_drewN ?_ _|refine blk_drew ?_|refine blk_alloc ?_ _));exact BK156.out⟩
           have n1_:Aside0 (((((w14.setCell ⟨gb158,0,none⟩ (.int .i64 ((rd_T50 l0_1 x8_1).f0))).setCell ⟨gb158,1,none⟩ (.int .i64 ((rd_T50 l0_1 x8_1).f1))).setCell ⟨gb158,2,none⟩ (.int .i64 ((rd_T50 l0_1 x8_1).f2))).setCell ⟨gb158,3,none⟩ (.int .i64 ((rd_T50 l0_1 x8_1).f3))).heap[gb158]?=some (.cells #[.int .i64 ((rd_T50 l0_1 x8_1).f0),.int .i64 ((rd_T50 l0_1 x8_1).f1),.int .i64 ((rd_T50 l0_1 x8_1).f2),.int .i64 ((rd_T50 l0_1 x8_1).f3)] 50 (0,0))):=⟨by (with_reducible repeat (first|refine blk_drewN ?_ _|refine blk_drew ?_|refine blk_alloc ?_ _));refine blk_put (cs:=#[.int .i64 ((rd_T50 l0_1 x8_1).f0),.int .i64 ((rd_T50 l0_1 x8_1).f1),.int .i64 ((rd_T50 l0_1 x8_1).f2),.int .i64 0]) ?_ 3 _ rfl;(with_reducible repeat (first|refine blk_drewN ?_ _|refine blk_drew ?_|refine blk_alloc ?_ _));refine blk_put (cs:=#[.int .i64 ((rd_T50 l0_1 x8_1).f0),.int .i64 ((rd_T50 l0_1 x8_1).f1),.int .i64 0,.int .i64 0]) ?_ 2 _ rfl;(with_reducible repeat (first|refine blk_drewN ?_ _|refine blk_drew ?_|refine blk_alloc ?_ _));refine blk_put (cs:=#[.int .i64 ((rd_T50 l0_1 x8_1).f0),.int .i64 0,.int .i64 0,.int .i64 0]) ?_ 1 _ rfl;(with_reducible repeat (first|refine blk_drewN ?_ _|refine blk_drew ?_|refine blk_alloc ?_ _));refine blk_put (cs:=#[.int .i64 0,.int .i64 0,.int .i64 0,.int .i64 0]) ?_ 0 _ rfl;(with_reducible repeat (first|refine blk_drewN ?_ _|refine blk_drew ?_|refine blk_alloc ?_ _));exact BK158.out⟩
           have n2_:Aside0 (Below w.heap.size w ((((w14.setCell ⟨gb158,0,none⟩ (.int .i64 ((rd_T50 l0_1 x8_1).f0))).setCell ⟨gb158,1,none⟩ (.int .i64 ((rd_T50 l0_1 x8_1).f1))).setCell ⟨gb158,2,none⟩ (.int .i64 ((rd_T50 l0_1 x8_1).f2))).setCell ⟨gb158,3,none⟩ (.int .i64 ((rd_T50 l0_1 x8_1).f3)))):=⟨by repeat (first|(with_reducible first|exact HB.out|apply below_alloc|apply pw_below_drewN|apply below_drew1|refine below_set ?_ GE156.out|refine below_set ?_ GE158.out)|exact HB.out)⟩
           (try clear BK156)
           (try clear BK158)
           (try clear HB)
           generalize ((((w14.setCell ⟨gb158,0,none⟩ (.int .i64 ((rd_T50 l0_1 x8_1).f0))).setCell ⟨gb158,1,none⟩ (.int .i64 ((rd_T50 l0_1 x8_1).f1))).setCell ⟨gb158,2,none⟩ (.int .i64 ((rd_T50 l0_1 x8_1).f2))).setCell ⟨gb158,3,none⟩ (.int .i64 ((rd_T50 l0_1 x8_1).f3)))=w17 at n0_ n1_ n2_ ⊢
           have BK156:=n0_
           have BK158:=n1_
           have HB:=n2_
           clear n0_ n1_ n2_
           have n0_:=aK (blk_drew BK156.out)
           have n1_:=aK (blk_drew BK158.out)
           have n2_:=aK (below_drew1 HB.out)
           clear BK156
           clear BK158
           clear HB
           have BK156:=n0_
           have BK158:=n1_
           have HB:=n2_
           clear n0_ n1_ n2_
           have p160:0≤((ji10):Int):=of_decide_eq_true (by first|(with_reducible assumption)|assumption)
           have q160:(ji10)<(l0_1.length:Int):=of_decide_eq_true (by first|(with_reducible assumption)|assumption)
           obtain ⟨ad160,e160,hx160_0,hx160_1,hx160_2,hx160_3⟩:=at_T50 HR0_1.out (ji10) p160 q160
           have hw160_3:=hx160_3
           have hw160_2:=hx160_2
           have hw160_1:=hx160_1
           have hw160_0:=hx160_0
           obtain rfl:ad157=ad160:=(by injection e160)
           replace hx160_0:=(HB.out.cell (World.block_lt_of_cell? w _ hx160_0)).trans hx160_0
           replace hx160_1:=(HB.out.cell (World.block_lt_of_cell? w _ hx160_1)).trans hx160_1
           replace hx160_2:=(HB.out.cell (World.block_lt_of_cell? w _ hx160_2)).trans hx160_2
           replace hx160_3:=(HB.out.cell (World.block_lt_of_cell? w _ hx160_3)).trans hx160_3
           replace p160:=eq_true p160
           replace q160:=eq_true q160
           refine start_ (n:=19) (S:=fun w'=>w'.cell? ⟨gb158,0,none⟩=some (.int .i64 ((rd_T50 l0_1 x8_1).f0))∧w'.cell? ⟨gb158,1,none⟩=some (.int .i64 ((rd_T50 l0_1 x8_1).f1))∧w'.cell? ⟨gb158,2,none⟩=some (.int .i64 ((rd_T50 l0_1 x8_1).f2))∧w'.cell? ⟨gb158,3,none⟩=some (.int .i64 ((rd_T50 l0_1 x8_1).f3))∧w'.cell? ⟨gb156,0,none⟩=some (.int .i64 a0_0)∧w'.cell? ⟨gb156,1,none⟩=some (.slice (some ad157) l0_1.length c0_1)∧w'.cell? ⟨gb156,2,none⟩=some (.slice A0_2 l0_2.length c0_2)∧w'.cell? (ad157.add (((ji10)).toNat*4))=some (.int .i64 ((rd_T50 l0_1 (ji10)).f0))∧w'.cell? ⟨(ad157.add (((ji10)).toNat*4)).block,(ad157.add (((ji10)).toNat*4)).off+1,none⟩=some (.int .i64 ((rd_T50 l0_1 (ji10)).f1))∧w'.cell? ⟨(ad157.add (((ji10)).toNat*4)).block,(ad157.add (((ji10)).toNat*4)).off+2,none⟩=some (.int .i64 ((rd_T50 l0_1 (ji10)).f2))∧w'.cell? ⟨(ad157.add (((ji10)).toNat*4)).block,(ad157.add (((ji10)).toNat*4)).off+3,none⟩=some (.int .i64 ((rd_T50 l0_1 (ji10)).f3))) (ds:=[]) #[false,false,false,false,false,false,false,false,false,false,false,false,false,false,false,false,false,false,false] (by kernel_rfl) rfl rfl ⟨(blk_cell BK158.out 0).trans rfl,(blk_cell BK158.out 1).trans rfl,(blk_cell BK158.out 2).trans rfl,(blk_cell BK158.out 3).trans rfl,(blk_cell BK156.out 0).trans rfl,(blk_cell BK156.out 1).trans rfl,(blk_cell BK156.out 2).trans rfl,((HB.out.cell (World.block_lt_of_cell? w _ hw160_0)).trans hw160_0),((HB.out.cell (World.block_lt_of_cell? w _ hw160_1)).trans hw160_1),((HB.out.cell (World.block_lt_of_cell? w _ hw160_2)).trans hw160_2),((HB.out.cell (World.block_lt_of_cell? w _ hw160_3)).trans hw160_3)⟩ (fun hHeld=>?_);refine with_tabW fleuronref27_Valid.tab4 fleuronref27_Valid.bits4 (fun HT_ HW_=>?_)
           generalize w17.drew=w18 at BK156 BK158 HB hx160_0 hx160_1 hx160_2 hx160_3 hHeld ⊢
           refine take_ (i:=0) (N:=some 13) (v:=?_) (a':=?_) #[true,false,false,false,false,false,false,false,false,false,false,false,false,false,false,false,false,false,false] rfl rfl (take_ofW HT_.out HW_.out (by kernel_rfl)) (fun _ _ _ h=>h) (Or.inl ⟨by rfl,?_⟩) hHeld ?_ ?_
           rotate_left
           ·rintro w' ⟨s0,s1,s2,s3,s4,s5,s6,s7,s8,s9,s10⟩
            go_simp
            with_reducible rfl
           rotate_left
           ·simp only [nS]
            rfl
           refine one_ (i:=1) (N:=some 14) #[true,true,false,false,false,false,false,false,false,false,false,false,false,false,false,false,false,false,false] rfl rfl (one_of HT_.out (by kernel_rfl)) (by decide) (fun K hK=>?_)
           refine goes_ Tryz.func38 (by kernel_rfl) rfl #[.agg #[.int .i64 ((rd_T50 l0_1 x8_1).f0),.int .i64 ((rd_T50 l0_1 x8_1).f1),.int .i64 ((rd_T50 l0_1 x8_1).f2),.int .i64 ((rd_T50 l0_1 x8_1).f3)]] (by rfl) rfl rfl (by (try simp only [List.map_toArray,List.map_cons,List.map_nil]);first|done|rfl|(simp only [List.length_drop,List.length_take];rfl)) ?_
           with_reducible refine (fleuronref27_char.calls ((rd_T50 l0_1 x8_1).f0) ((rd_T50 l0_1 x8_1).f1) ((rd_T50 l0_1 x8_1).f2) ((rd_T50 l0_1 x8_1).f3) true _ A7.out).mono ?_
           rintro e w19 ⟨rfl,hb⟩
           refine ⟨_,rfl,?_⟩
           have n0_:=aK (blk_below (g:=gb156) (o:=.cells #[.int .i64 a0_0,.slice (some ad157) l0_1.length c0_1,.slice A0_2 l0_2.length c0_2] 25 (0,0)) (by (with_reducible repeat (first|refine blk_drewN ?_ _|refine blk_drew ?_|refine blk_alloc ?_ _));exact BK156.out) hb)
           have n1_:=aK (blk_below (g:=gb158) (o:=.cells #[.int .i64 ((rd_T50 l0_1 x8_1).f0),.int .i64 ((rd_T50 l0_1 x8_1).f1),.int .i64 ((rd_T50 l0_1 x8_1).f2),.int .i64 ((rd_T50 l0_1 x8_1).f3)] 50 (0,0)) (by (with_reducible repeat (first|refine blk_drewN ?_ _|refine blk_drew ?_|refine blk_alloc ?_ _));exact BK158.out) hb)
           have n2_:=aK (below_step (by repeat (first|(with_reducible first|exact HB.out|apply below_alloc|apply pw_below_drewN|apply below_drew1|refine below_set ?_ GE156.out|refine below_set ?_ GE158.out)|exact HB.out)) hb)
           clear BK156
           clear BK158
           clear HB
           have BK156:=n0_
           have BK158:=n1_
           have HB:=n2_
           clear n0_ n1_ n2_
           (try clear hb)
           (try clear hb2)
           (try clear hk)
           (try clear hi)
           refine hK.out _ _ ⟨(blk_cell BK158.out 0).trans rfl,(blk_cell BK158.out 1).trans rfl,(blk_cell BK158.out 2).trans rfl,(blk_cell BK158.out 3).trans rfl,(blk_cell BK156.out 0).trans rfl,(blk_cell BK156.out 1).trans rfl,(blk_cell BK156.out 2).trans rfl,((HB.out.cell (World.block_lt_of_cell? w _ hw160_0)).trans hw160_0),((HB.out.cell (World.block_lt_of_cell? w _ hw160_1)).trans hw160_1),((HB.out.cell (World.block_lt_of_cell? w _ hw160_2)).trans hw160_2),((HB.out.cell (World.block_lt_of_cell? w _ hw160_3)).trans hw160_3)⟩ (fun hHeld=>?_)
           clear hK K
           refine norm_ (a':=?_) ?_ ?_;rotate_left;show Act.put _ (some 14) _=_;simp only [nS];rfl
           refine pure_ (i:=2) (N:=some 15) (v:=?_) (a':=?_) #[true,true,true,false,false,false,false,false,false,false,false,false,false,false,false,false,false,false,false] rfl rfl (any_of HT_.out (by kernel_rfl)) (fun _ _ _ h=>h) (Or.inl ⟨by rfl,?_⟩) ?_ ?_
           rotate_left
           ·intro w'
            go_simp
            with_reducible rfl
           rotate_left
           ·simp only [nS]
            rfl
           refine pure_ (i:=3) (N:=some 16) (v:=?_) (a':=?_) #[true,true,true,true,false,false,false,false,false,false,false,false,false,false,false,false,false,false,false] rfl rfl (any_of HT_.out (by kernel_rfl)) (fun _ _ _ h=>h) (Or.inl ⟨by rfl,?_⟩) ?_ ?_
           rotate_left
           ·intro w'
            go_simp
            with_reducible rfl
           rotate_left
           ·simp only [nS]
            rfl
           refine pure_ (i:=4) (N:=some 17) (v:=?_) (a':=?_) #[true,true,true,true,true,false,false,false,false,false,false,false,false,false,false,false,false,false,false] rfl rfl (any_of HT_.out (by kernel_rfl)) (fun _ _ _ h=>h) (Or.inl ⟨by rfl,?_⟩) ?_ ?_
           rotate_left
           ·intro w'
            go_simp
            with_reducible rfl
           rotate_left
           ·simp only [nS]
            rfl
           refine pure_ (i:=5) (N:=some 18) (v:=?_) (a':=?_) #[true,true,true,true,true,true,false,false,false,false,false,false,false,false,false,false,false,false,false] rfl rfl (any_of HT_.out (by kernel_rfl)) (fun _ _ _ h=>h) (Or.inl ⟨by rfl,?_⟩) ?_ ?_
           rotate_left
           ·intro w'
            go_simp
            with_reducible rfl
           rotate_left
           ·simp only [nS]
            rfl
           refine pure_ (i:=6) (N:=some 19) (v:=?_) (a':=?_) #[true,true,true,true,true,true,true,false,false,false,false,false,false,false,false,false,false,false,false] rfl rfl (any_of HT_.out (by kernel_rfl)) (fun _ _ _ h=>h) (Or.inl ⟨by rfl,?_⟩) ?_ ?_
           rotate_left
           ·intro w'
            go_simp
            with_reducible rfl
           rotate_left
           ·simp only [nS]
            rfl
           refine pure_ (i:=7) (N:=some 20) (v:=?_) (a':=?_) #[true,true,true,true,true,true,true,true,false,false,false,false,false,false,false,false,false,false,false] rfl rfl (any_of HT_.out (by kernel_rfl)) (fun _ _ _ h=>h) (Or.inl ⟨by rfl,?_⟩) ?_ ?_
           rotate_left
           ·intro w'
            go_simp
            with_reducible rfl
           rotate_left
           ·simp only [nS]
            rfl
           refine pure_ (i:=9) (N:=some 22) (v:=?_) (a':=?_) #[true,true,true,true,true,true,true,true,false,true,false,false,false,false,false,false,false,false,false] rfl rfl (any_of HT_.out (by kernel_rfl)) (fun _ _ _ h=>h) (Or.inl ⟨by rfl,?_⟩) ?_ ?_
           rotate_left
           ·intro w'
            go_simp
            with_reducible rfl
           rotate_left
           ·simp only [nS]
            rfl
           refine pure_ (i:=10) (N:=some 23) (v:=?_) (a':=?_) #[true,true,true,true,true,true,true,true,false,true,true,false,false,false,false,false,false,false,false] rfl rfl (any_of HT_.out (by kernel_rfl)) (fun _ _ _ h=>h) (Or.inl ⟨by rfl,?_⟩) ?_ ?_
           rotate_left
           ·intro w'
            go_simp
            with_reducible rfl
           rotate_left
           ·simp only [nS]
            rfl
           refine pure_ (i:=14) (N:=some 27) (v:=?_) (a':=?_) #[true,true,true,true,true,true,true,true,false,true,true,false,false,false,true,false,false,false,false] rfl rfl (any_of HT_.out (by kernel_rfl)) (fun _ _ _ h=>h) (Or.inl ⟨by rfl,?_⟩) ?_ ?_
           rotate_left
           ·intro w'
            go_simp
            with_reducible rfl
           rotate_left
           ·simp only [nS]
            rfl
           refine take_ (i:=8) (N:=some 21) (v:=?_) (a':=?_) #[true,true,true,true,true,true,true,true,true,true,true,false,false,false,true,false,false,false,false] rfl rfl (take_ofW HT_.out HW_.out (by kernel_rfl)) (fun _ _ _ h=>h) (Or.inl ⟨by rfl,?_⟩) hHeld ?_ ?_
           rotate_left
           ·rintro w' ⟨s0,s1,s2,s3,s4,s5,s6,s7,s8,s9,s10⟩
            go_simp
            with_reducible rfl
           rotate_left
           ·simp only [nS]
            rfl
           refine pure_ (i:=11) (N:=some 24) (v:=?_) (a':=?_) #[true,true,true,true,true,true,true,true,true,true,true,true,false,false,true,false,false,false,false] rfl rfl (any_of HT_.out (by kernel_rfl)) (fun _ _ _ h=>h) (Or.inl ⟨by rfl,?_⟩) ?_ ?_
           rotate_left
           ·intro w'
            go_simp
            with_reducible rfl
           rotate_left
           ·simp only [nS]
            rfl
           refine pure_ (i:=12) (N:=some 25) (v:=?_) (a':=?_) #[true,true,true,true,true,true,true,true,true,true,true,true,true,false,true,false,false,false,false] rfl rfl (any_of HT_.out (by kernel_rfl)) (fun _ _ _ h=>h) (Or.inl ⟨by rfl,?_⟩) ?_ ?_
           rotate_left
           ·intro w'
            go_simp
            with_reducible rfl
           rotate_left
           ·simp only [nS]
            rfl
           refine take_ (i:=13) (N:=some 26) (v:=?_) (a':=?_) #[true,true,true,true,true,true,true,true,true,true,true,true,true,true,true,false,false,false,false] rfl rfl (take_ofW HT_.out HW_.out (by kernel_rfl)) (fun _ _ _ h=>h) (Or.inl ⟨by rfl,?_⟩) hHeld ?_ ?_
           rotate_left
           ·rintro w' ⟨s0,s1,s2,s3,s4,s5,s6,s7,s8,s9,s10⟩
            go_simp
            with_reducible rfl
           rotate_left
           ·simp only [nS]
            rfl
           refine take_ (i:=15) (N:=some 28) (v:=?_) (a':=?_) #[true,true,true,true,true,true,true,true,true,true,true,true,true,true,true,true,false,false,false] rfl rfl (take_ofW HT_.out HW_.out (by kernel_rfl)) (fun _ _ _ h=>h) (Or.inl ⟨by rfl,?_⟩) hHeld ?_ ?_
           rotate_left
           ·rintro w' ⟨s0,s1,s2,s3,s4,s5,s6,s7,s8,s9,s10⟩
            go_simp
            with_reducible rfl
           rotate_left
           ·simp only [nS]
            rfl
           refine pure_ (i:=16) (N:=some 29) (v:=?_) (a':=?_) #[true,true,true,true,true,true,true,true,true,true,true,true,true,true,true,true,true,false,false] rfl rfl (any_of HT_.out (by kernel_rfl)) (fun _ _ _ h=>h) (Or.inl ⟨by rfl,?_⟩) ?_ ?_
           rotate_left
           ·intro w'
            go_simp
            with_reducible rfl
           rotate_left
           ·simp only [nS]
            rfl
           refine pure_ (i:=17) (N:=some 30) (v:=?_) (a':=?_) #[true,true,true,true,true,true,true,true,true,true,true,true,true,true,true,true,true,true,false] rfl rfl (any_of HT_.out (by kernel_rfl)) (fun _ _ _ h=>h) (Or.inl ⟨by rfl,?_⟩) ?_ ?_
           rotate_left
           ·intro w'
            go_simp
            with_reducible rfl
           rotate_left
           ·simp only [nS]
            rfl
           refine pure_ (i:=18) (N:=some 31) (v:=?_) (a':=?_) #[true,true,true,true,true,true,true,true,true,true,true,true,true,true,true,true,true,true,true] rfl rfl (any_of HT_.out (by kernel_rfl)) (fun _ _ _ h=>h) (Or.inl ⟨by rfl,?_⟩) ?_ ?_
           rotate_left
           ·intro w'
            go_simp
            with_reducible rfl
           rotate_left
           ·simp only [nS]
            rfl
           refine done_ (done_of HT_.out (by kernel_rfl)) ?_
           try go_wp2
           go_ret
           exact ⟨by first|rfl|(simp [errW_none,errW_some] <;> rfl)|(simp only [← hji10];first|rfl|(simp [errW_none,errW_some] <;> rfl))|(simp [*,errW_none,errW_some] <;> rfl),by repeat (first|(with_reducible first|exact HB.out|apply below_alloc|apply pw_below_drewN|apply below_drew1|refine below_set ?_ GE156.out|refine below_set ?_ GE158.out)|exact HB.out)⟩
          ·rw [if_neg c13] at H
           have c13b0:decide (((rd_T50 l0_1 x8_1).f0)≤((rd_T50 l0_1 (ji10)).f0))=false:=decide_eq_false c13
           clear c13
           have H':=aK H
           clear H
           have p157:0≤(x8_1:Int):=of_decide_eq_true (by first|(with_reducible assumption)|assumption)
           have q157:x8_1<(l0_1.length:Int):=of_decide_eq_true (by first|(with_reducible assumption)|assumption)
           obtain ⟨ad157,e157,hx157_0,hx157_1,hx157_2,hx157_3⟩:=at_T50 HR0_1.out x8_1 p157 q157
           cases e157
           replace hx157_0:=(HB.out.cell (World.block_lt_of_cell? w _ hx157_0)).trans hx157_0
           replace hx157_1:=(HB.out.cell (World.block_lt_of_cell? w _ hx157_1)).trans hx157_1
           replace hx157_2:=(HB.out.cell (World.block_lt_of_cell? w _ hx157_2)).trans hx157_2
           replace hx157_3:=(HB.out.cell (World.block_lt_of_cell? w _ hx157_3)).trans hx157_3
           replace p157:=eq_true p157
           replace q157:=eq_true q157
           try go_wp2_with (first|((with_reducible refine gate_dst (N:=4) rfl ?_);refine box_event ?hg (N:=4) ?hd (cs:=#[.int .i64 0,.int .i64 0,.int .i64 0,.int .i64 0]) (t:=50) ?hr ?_;(case hd=>rfl);(case hg=>rfl);(case hr=>first|(go_simp;done)|(go_simp;rfl));intro gb158 hg w20 hbox hb;have n0_:=aK (blk_below (g:=gb156) (o:=.cells #[.int .i64 a0_0,.slice (some ad157) l0_1.length c0_1,.slice A0_2 l0_2.length c0_2] 25 (0,0)) (by (with_reducible repeat (first|refine blk_drewN ?_ _|refine blk_drew ?_|refine blk_alloc ?_ _));exact BK156.out) hb);have n1_:=aK (below_step (by repeat (first|(with_reducible first|exact HB.out|apply below_alloc|apply pw_below_drewN|apply below_drew1|refine below_set ?_ GE156.out)|exact HB.out)) hb);have n2_:=aK (hbox);have n3_:=aK ((by rw [hg];exact (below_size (by repeat (first|(with_reducible first|exact HB.out|apply below_alloc|apply pw_below_drewN|apply below_drew1|refine below_set ?_ GE156.out)|exact HB.out))):w.heap.size≤gb158));have n4_:=n3_;have n5_:=aK ((by rw [hg];exact Nat.ne_of_lt (blk_lt (g:=gb156) (o:=.cells #[.int .i64 a0_0,.slice (some ad157) l0_1.length c0_1,.slice A0_2 l0_2.length c0_2] 25 (0,0)) (by (with_reducible repeat (first|refine blk_drewN ?_ _|refine blk_drew ?_|refine blk_alloc ?_ _));exact BK156.out)):gb156≠gb158));have n6_:=aK (Ne.symm n5_.out);clear BK156;clear HB;have BK156:=n0_;have HB:=n1_;have BK158:=n2_;have GW158:=n3_;have GE158:=n4_;have NB156_158:=n5_;have NB158_156:=n6_;clear n0_ n1_ n2_ n3_ n4_ n5_ n6_;clear hb hbox hg;have hnb21:=NB158_156.out;have hnc21:=NB156_158.out;have hcz22_0:w20.cell? ⟨gb158,0,none⟩=some (.int .i64 0):=(blk_cell BK158.out 0).trans rfl;have hcz22_1:w20.cell? ⟨gb158,1,none⟩=some (.int .i64 0):=(blk_cell BK158.out 1).trans rfl;have hcz22_2:w20.cell? ⟨gb158,2,none⟩=some (.int .i64 0):=(blk_cell BK158.out 2).trans rfl;have hcz22_3:w20.cell? ⟨gb158,3,none⟩=some (.int .i64 0):=(blk_cell BK158.out 3).trans rfl;have hfz22_0:=blk_frozen BK158.out 0;have hfz22_1:=blk_frozen BK158.out 1;have hfz22_2:=blk_frozen BK158.out 2;have hfz22_3:=blk_frozen BK158.out 3))
           have n0_:Aside0 (((((w20.setCell ⟨gb158,0,none⟩ (.int .i64 ((rd_T50 l0_1 x8_1).f0))).setCell ⟨gb158,1,none⟩ (.int .i64 ((rd_T50 l0_1 x8_1).f1))).setCell ⟨gb158,2,none⟩ (.int .i64 ((rd_T50 l0_1 x8_1).f2))).setCell ⟨gb158,3,none⟩ (.int .i64 ((rd_T50 l0_1 x8_1).f3))).heap[gb156]?=some (.cells #[.int .i64 a0_0,.slice (some ad157) l0_1.length c0_1,.slice A0_2 l0_2.length c0_2] 25 (0,0))):=⟨by (with_reducible repeat (first|refine blk_drewN ?_ _|refine blk_drew ?_|refine blk_alloc ?_ _));refine blk_far ?_ NB156_158.out _;(with_reducible repeat (first|refine blk_drewN ?_ _|refine blk_drew ?_|refine blk_alloc ?_ _));refine blk_far ?_ NB156_158.out _;(with_reducible repeat (first|refine blk_drewN ?_ _|refine blk_drew ?_|refine blk_alloc ?_ _));refine blk_far ?_ NB156_158.out _;(with_reducible repeat (first|refine blk_drewN ?_ _|refine blk_drew ?_|refine blk_alloc ?_ _));refine blk_far ?_ NB156_158.out _;(with_reducible repeat (first|refine blk_drewN ?_ _|refine blk_drew ?_|refine blk_alloc ?_ _));exact BK156.out⟩
           have n1_:Aside0 (((((w20.setCell ⟨gb158,0,none⟩ (.int .i64 ((rd_T50 l0_1 x8_1).f0))).setCell ⟨gb158,1,none⟩ (.int .i64 ((rd_T50 l0_1 x8_1).f1))).setCell ⟨gb158,2,none⟩ (.int .i64 ((rd_T50 l0_1 x8_1).f2))).setCell ⟨gb158,3,none⟩ (.int .i64 ((rd_T50 l0_1 x8_1).f3))).heap[gb158]?=some (.cells #[.int .i64 ((rd_T50 l0_1 x8_1).f0),.int .i64 ((rd_T50 l0_1 x8_1).f1),.int .i64 ((rd_T50 l0_1 x8_1).f2),.int .i64 ((rd_T50 l0_1 x8_1).f3)] 50 (0,0))):=⟨by (with_reducible repeat (first|refine blk_drewN ?_ _|refine blk_drew ?_|refine blk_alloc ?_ _));refine blk_put (cs:=#[.int .i64 ((rd_T50 l0_1 x8_1).f0),.int .i64 ((rd_T50 l0_1 x8_1).f1),.int .i64 ((rd_T50 l0_1 x8_1).f2),.int .i64 0]) ?_ 3 _ rfl;(with_reducible repeat (first|refine blk_drewN ?_ _|refine blk_drew ?_|refine blk_alloc ?_ _));refine blk_put (cs:=#[.int .i64 ((rd_T50 l0_1 x8_1).f0),.int .i64 ((rd_T50 l0_1 x8_1).f1),.int .i64 0,.int .i64 0]) ?_ 2 _ rfl;(with_reducible repeat (first|refine blk_drewN ?_ _|refine blk_drew ?_|refine blk_alloc ?_ _));refine blk_put (cs:=#[.int .i64 ((rd_T50 l0_1 x8_1).f0),.int .i64 0,.int .i64 0,.int .i64 0]) ?_ 1 _ rfl;(with_reducible repeat (first|refine blk_drewN ?_ _|refine blk_drew ?_|refine blk_alloc ?_ _));refine blk_put (cs:=#[.int .i64 0,.int .i64 0,.int .i64 0,.int .i64 0]) ?_ 0 _ rfl;(with_reducible repeat (first|refine blk_drewN ?_ _|refine blk_drew ?_|refine blk_alloc ?_ _));exact BK158.out⟩
           have n2_:Aside0 (Below w.heap.size w ((((w20.setCell ⟨gb158,0,none⟩ (.int .i64 ((rd_T50 l0_1 x8_1).f0))).setCell ⟨gb158,1,none⟩ (.int .i64 ((rd_T50 l0_1 x8_1).f1))).setCell ⟨gb158,2,none⟩ (.int .i64 ((rd_T50 l0_1 x8_1).f2))).setCell ⟨gb158,3,none⟩ (.int .i64 ((rd_T50 l0_1 x8_1).f3)))):=⟨by repeat (first|(with_reducible first|exact HB.out|apply below_alloc|apply pw_below_drewN|apply below_drew1|refine below_set ?_ GE156.out|refine below_set ?_ GE158.out)|exact HB.out)⟩
           (try clear BK156)
           (try clear BK158)
           (try clear HB)
           generalize ((((w20.setCell ⟨gb158,0,none⟩ (.int .i64 ((rd_T50 l0_1 x8_1).f0))).setCell ⟨gb158,1,none⟩ (.int .i64 ((rd_T50 l0_1 x8_1).f1))).setCell ⟨gb158,2,none⟩ (.int .i64 ((rd_T50 l0_1 x8_1).f2))).setCell ⟨gb158,3,none⟩ (.int .i64 ((rd_T50 l0_1 x8_1).f3)))=w23 at n0_ n1_ n2_ ⊢
           have BK156:=n0_
           have BK158:=n1_
           have HB:=n2_
           clear n0_ n1_ n2_
           have n0_:=aK (blk_drew BK156.out)
           have n1_:=aK (blk_drew BK158.out)
           have n2_:=aK (below_drew1 HB.out)
           clear BK156
           clear BK158
           clear HB
           have BK156:=n0_
           have BK158:=n1_
           have HB:=n2_
           clear n0_ n1_ n2_
           have p160:0≤((ji10):Int):=of_decide_eq_true (by first|(with_reducible assumption)|assumption)
           have q160:(ji10)<(l0_1.length:Int):=of_decide_eq_true (by first|(with_reducible assumption)|assumption)
           obtain ⟨ad160,e160,hx160_0,hx160_1,hx160_2,hx160_3⟩:=at_T50 HR0_1.out (ji10) p160 q160
           have hw160_3:=hx160_3
           have hw160_2:=hx160_2
           have hw160_1:=hx160_1
           have hw160_0:=hx160_0
           obtain rfl:ad157=ad160:=(by injection e160)
           replace hx160_0:=(HB.out.cell (World.block_lt_of_cell? w _ hx160_0)).trans hx160_0
           replace hx160_1:=(HB.out.cell (World.block_lt_of_cell? w _ hx160_1)).trans hx160_1
           replace hx160_2:=(HB.out.cell (World.block_lt_of_cell? w _ hx160_2)).trans hx160_2
           replace hx160_3:=(HB.out.cell (World.block_lt_of_cell? w _ hx160_3)).trans hx160_3
           replace p160:=eq_true p160
           replace q160:=eq_true q160
           refine start_ (n:=19) (S:=fun w'=>w'.cell? ⟨gb158,0,none⟩=some (.int .i64 ((rd_T50 l0_1 x8_1).f0))∧w'.cell? ⟨gb158,1,none⟩=some (.int .i64 ((rd_T50 l0_1 x8_1).f1))∧w'.cell? ⟨gb158,2,none⟩=some (.int .i64 ((rd_T50 l0_1 x8_1).f2))∧w'.cell? ⟨gb158,3,none⟩=some (.int .i64 ((rd_T50 l0_1 x8_1).f3))∧w'.cell? ⟨gb156,0,none⟩=some (.int .i64 a0_0)∧w'.cell? ⟨gb156,1,none⟩=some (.slice (some ad157) l0_1.length c0_1)∧w'.cell? ⟨gb156,2,none⟩=some (.slice A0_2 l0_2.length c0_2)∧w'.cell? (ad157.add (((ji10)).toNat*4))=some (.int .i64 ((rd_T50 l0_1 (ji10)).f0))∧w'.cell? ⟨(ad157.add (((ji10)).toNat*4)).block,(ad157.add (((ji10)).toNat*4)).off+1,none⟩=some (.int .i64 ((rd_T50 l0_1 (ji10)).f1))∧w'.cell? ⟨(ad157.add (((ji10)).toNat*4)).block,(ad157.add (((ji10)).toNat*4)).off+2,none⟩=some (.int .i64 ((rd_T50 l0_1 (ji10)).f2))∧w'.cell? ⟨(ad157.add (((ji10)).toNat*4)).block,(ad157.add (((ji10)).toNat*4)).off+3,none⟩=some (.int .i64 ((rd_T50 l0_1 (ji10)).f3))) (ds:=[]) #[false,false,false,false,false,false,false,false,false,false,false,false,false,false,false,false,false,false,false] (by kernel_rfl) rfl rfl ⟨(blk_cell BK158.out 0).trans rfl,(blk_cell BK158.out 1).trans rfl,(blk_cell BK158.out 2).trans rfl,(blk_cell BK158.out 3).trans rfl,(blk_cell BK156.out 0).trans rfl,(blk_cell BK156.out 1).trans rfl,(blk_cell BK156.out 2).trans rfl,((HB.out.cell (World.block_lt_of_cell? w _ hw160_0)).trans hw160_0),((HB.out.cell (World.block_lt_of_cell? w _ hw160_1)).trans hw160_1),((HB.out.cell (World.block_lt_of_cell? w _ hw160_2)).trans hw160_2),((HB.out.cell (World.block_lt_of_cell? w _ hw160_3)).trans hw160_3)⟩ (fun hHeld=>?_);refine with_tabW fleuronref27_Valid.tab4 fleuronref27_Valid.bits4 (fun HT_ HW_=>?_)
           generalize w23.drew=w24 at BK156 BK158 HB hx160_0 hx160_1 hx160_2 hx160_3 hHeld ⊢
           refine take_ (i:=0) (N:=some 13) (v:=?_) (a':=?_) #[true,false,false,false,false,false,false,false,false,false,false,false,false,false,false,false,false,false,false] rfl rfl (take_ofW HT_.out HW_.out (by kernel_rfl)) (fun _ _ _ h=>h) (Or.inl ⟨by rfl,?_⟩) hHeld ?_ ?_
           rotate_left
           ·rintro w' ⟨s0,s1,s2,s3,s4,s5,s6,s7,s8,s9,s10⟩
            go_simp
            with_reducible rfl
           rotate_left
           ·simp only [nS]
            rfl
           refine one_ (i:=1) (N:=some 14) #[true,true,false,false,false,false,false,false,false,false,false,false,false,false,false,false,false,false,false] rfl rfl (one_of HT_.out (by kernel_rfl)) (by decide) (fun K hK=>?_)
           refine goes_ Tryz.func38 (by kernel_rfl) rfl #[.agg #[.int .i64 ((rd_T50 l0_1 x8_1).f0),.int .i64 ((rd_T50 l0_1 x8_1).f1),.int .i64 ((rd_T50 l0_1 x8_1).f2),.int .i64 ((rd_T50 l0_1 x8_1).f3)]] (by rfl) rfl rfl (by (try simp only [List.map_toArray,List.map_cons,List.map_nil]);first|done|rfl|(simp only [List.length_drop,List.length_take];rfl)) ?_
           with_reducible refine (fleuronref27_char.calls ((rd_T50 l0_1 x8_1).f0) ((rd_T50 l0_1 x8_1).f1) ((rd_T50 l0_1 x8_1).f2) ((rd_T50 l0_1 x8_1).f3) true _ A7.out).mono ?_
           rintro e w25 ⟨rfl,hb⟩
           refine ⟨_,rfl,?_⟩
           have n0_:=aK (blk_below (g:=gb156) (o:=.cells #[.int .i64 a0_0,.slice (some ad157) l0_1.length c0_1,.slice A0_2 l0_2.length c0_2] 25 (0,0)) (by (with_reducible repeat (first|refine blk_drewN ?_ _|refine blk_drew ?_|refine blk_alloc ?_ _));exact BK156.out) hb)
           have n1_:=aK (blk_below (g:=gb158) (o:=.cells #[.int .i64 ((rd_T50 l0_1 x8_1).f0),.int .i64 ((rd_T50 l0_1 x8_1).f1),.int .i64 ((rd_T50 l0_1 x8_1).f2),.int .i64 ((rd_T50 l0_1 x8_1).f3)] 50 (0,0)) (by (with_reducible repeat (first|refine blk_drewN ?_ _|refine blk_drew ?_|refine blk_alloc ?_ _));exact BK158.out) hb)
           have n2_:=aK (below_step (by repeat (first|(with_reducible first|exact HB.out|apply below_alloc|apply pw_below_drewN|apply below_drew1|refine below_set ?_ GE156.out|refine below_set ?_ GE158.out)|exact HB.out)) hb)
           clear BK156
           clear BK158
           clear HB
           have BK156:=n0_
           have BK158:=n1_
           have HB:=n2_
           clear n0_ n1_ n2_
           (try clear hb)
           (try clear hb2)
           (try clear hk)
           (try clear hi)
           refine hK.out _ _ ⟨(blk_cell BK158.out 0).trans rfl,(blk_cell BK158.out 1).trans rfl,(blk_cell BK158.out 2).trans rfl,(blk_cell BK158.out 3).trans rfl,(blk_cell BK156.out 0).trans rfl,(blk_cell BK156.out 1).trans rfl,(blk_cell BK156.out 2).trans rfl,((HB.out.cell (World.block_lt_of_cell? w _ hw160_0)).trans hw160_0),((HB.out.cell (World.block_lt_of_cell? w _ hw160_1)).trans hw160_1),((HB.out.cell (World.block_lt_of_cell? w _ hw160_2)).trans hw160_2),((HB.out.cell (World.block_lt_of_cell? w _ hw160_3)).trans hw160_3)⟩ (fun hHeld=>?_)
           clear hK K
           refine norm_ (a':=?_) ?_ ?_;rotate_left;show Act.put _ (some 14) _=_;simp only [nS];rfl
           refine pure_ (i:=2) (N:=some 15) (v:=?_) (a':=?_) #[true,true,true,false,false,false,false,false,false,false,false,false,false,false,false,false,false,false,false] rfl rfl (any_of HT_.out (by kernel_rfl)) (fun _ _ _ h=>h) (Or.inl ⟨by rfl,?_⟩) ?_ ?_
           rotate_left
           ·intro w'
            go_simp
            with_reducible rfl
           rotate_left
           ·simp only [nS]
            rfl
           refine pure_ (i:=3) (N:=some 16) (v:=?_) (a':=?_) #[true,true,true,true,false,false,false,false,false,false,false,false,false,false,false,false,false,false,false] rfl rfl (any_of HT_.out (by kernel_rfl)) (fun _ _ _ h=>h) (Or.inl ⟨by rfl,?_⟩) ?_ ?_
           rotate_left
           ·intro w'
            go_simp
            with_reducible rfl
           rotate_left
           ·simp only [nS]
            rfl
           refine pure_ (i:=4) (N:=some 17) (v:=?_) (a':=?_) #[true,true,true,true,true,false,false,false,false,false,false,false,false,false,false,false,false,false,false] rfl rfl (any_of HT_.out (by kernel_rfl)) (fun _ _ _ h=>h) (Or.inl ⟨by rfl,?_⟩) ?_ ?_
           rotate_left
           ·intro w'
            go_simp
            with_reducible rfl
           rotate_left
           ·simp only [nS]
            rfl
           refine pure_ (i:=5) (N:=some 18) (v:=?_) (a':=?_) #[true,true,true,true,true,true,false,false,false,false,false,false,false,false,false,false,false,false,false] rfl rfl (any_of HT_.out (by kernel_rfl)) (fun _ _ _ h=>h) (Or.inl ⟨by rfl,?_⟩) ?_ ?_
           rotate_left
           ·intro w'
            go_simp
            with_reducible rfl
           rotate_left
           ·simp only [nS]
            rfl
           refine pure_ (i:=6) (N:=some 19) (v:=?_) (a':=?_) #[true,true,true,true,true,true,true,false,false,false,false,false,false,false,false,false,false,false,false] rfl rfl (any_of HT_.out (by kernel_rfl)) (fun _ _ _ h=>h) (Or.inl ⟨by rfl,?_⟩) ?_ ?_
           rotate_left
           ·intro w'
            go_simp
            with_reducible rfl
           rotate_left
           ·simp only [nS]
            rfl
           refine pure_ (i:=7) (N:=some 20) (v:=?_) (a':=?_) #[true,true,true,true,true,true,true,true,false,false,false,false,false,false,false,false,false,false,false] rfl rfl (any_of HT_.out (by kernel_rfl)) (fun _ _ _ h=>h) (Or.inl ⟨by rfl,?_⟩) ?_ ?_
           rotate_left
           ·intro w'
            go_simp
            with_reducible rfl
           rotate_left
           ·simp only [nS]
            rfl
           refine pure_ (i:=9) (N:=some 22) (v:=?_) (a':=?_) #[true,true,true,true,true,true,true,true,false,true,false,false,false,false,false,false,false,false,false] rfl rfl (any_of HT_.out (by kernel_rfl)) (fun _ _ _ h=>h) (Or.inl ⟨by rfl,?_⟩) ?_ ?_
           rotate_left
           ·intro w'
            go_simp
            with_reducible rfl
           rotate_left
           ·simp only [nS]
            rfl
           refine pure_ (i:=10) (N:=some 23) (v:=?_) (a':=?_) #[true,true,true,true,true,true,true,true,false,true,true,false,false,false,false,false,false,false,false] rfl rfl (any_of HT_.out (by kernel_rfl)) (fun _ _ _ h=>h) (Or.inl ⟨by rfl,?_⟩) ?_ ?_
           rotate_left
           ·intro w'
            go_simp
            with_reducible rfl
           rotate_left
           ·simp only [nS]
            rfl
           refine pure_ (i:=14) (N:=some 27) (v:=?_) (a':=?_) #[true,true,true,true,true,true,true,true,false,true,true,false,false,false,true,false,false,false,false] rfl rfl (any_of HT_.out (by kernel_rfl)) (fun _ _ _ h=>h) (Or.inl ⟨by rfl,?_⟩) ?_ ?_
           rotate_left
           ·intro w'
            go_simp
            with_reducible rfl
           rotate_left
           ·simp only [nS]
            rfl
           refine take_ (i:=8) (N:=some 21) (v:=?_) (a':=?_) #[true,true,true,true,true,true,true,true,true,true,true,false,false,false,true,false,false,false,false] rfl rfl (take_ofW HT_.out HW_.out (by kernel_rfl)) (fun _ _ _ h=>h) (Or.inl ⟨by rfl,?_⟩) hHeld ?_ ?_
           rotate_left
           ·rintro w' ⟨s0,s1,s2,s3,s4,s5,s6,s7,s8,s9,s10⟩
            go_simp
            with_reducible rfl
           rotate_left
           ·simp only [nS]
            rfl
           refine pure_ (i:=11) (N:=some 24) (v:=?_) (a':=?_) #[true,true,true,true,true,true,true,true,true,true,true,true,false,false,true,false,false,false,false] rfl rfl (any_of HT_.out (by kernel_rfl)) (fun _ _ _ h=>h) (Or.inl ⟨by rfl,?_⟩) ?_ ?_
           rotate_left
           ·intro w'
            go_simp
            with_reducible rfl
           rotate_left
           ·simp only [nS]
            rfl
           refine pure_ (i:=12) (N:=some 25) (v:=?_) (a':=?_) #[true,true,true,true,true,true,true,true,true,true,true,true,true,false,true,false,false,false,false] rfl rfl (any_of HT_.out (by kernel_rfl)) (fun _ _ _ h=>h) (Or.inl ⟨by rfl,?_⟩) ?_ ?_
           rotate_left
           ·intro w'
            go_simp
            with_reducible rfl
           rotate_left
           ·simp only [nS]
            rfl
           refine take_ (i:=13) (N:=some 26) (v:=?_) (a':=?_) #[true,true,true,true,true,true,true,true,true,true,true,true,true,true,true,false,false,false,false] rfl rfl (take_ofW HT_.out HW_.out (by kernel_rfl)) (fun _ _ _ h=>h) (Or.inl ⟨by rfl,?_⟩) hHeld ?_ ?_
           rotate_left
           ·rintro w' ⟨s0,s1,s2,s3,s4,s5,s6,s7,s8,s9,s10⟩
            go_simp
            with_reducible rfl
           rotate_left
           ·simp only [nS]
            rfl
           refine take_ (i:=15) (N:=some 28) (v:=?_) (a':=?_) #[true,true,true,true,true,true,true,true,true,true,true,true,true,true,true,true,false,false,false] rfl rfl (take_ofW HT_.out HW_.out (by kernel_rfl)) (fun _ _ _ h=>h) (Or.inl ⟨by rfl,?_⟩) hHeld ?_ ?_
           rotate_left
           ·rintro w' ⟨s0,s1,s2,s3,s4,s5,s6,s7,s8,s9,s10⟩
            go_simp
            with_reducible rfl
           rotate_left
           ·simp only [nS]
            rfl
           refine pure_ (i:=16) (N:=some 29) (v:=?_) (a':=?_) #[true,true,true,true,true,true,true,true,true,true,true,true,true,true,true,true,true,false,false] rfl rfl (any_of HT_.out (by kernel_rfl)) (fun _ _ _ h=>h) (Or.inl ⟨by rfl,?_⟩) ?_ ?_
           rotate_left
           ·intro w'
            go_simp
            with_reducible rfl
           rotate_left
           ·simp only [nS]
            rfl
           refine pure_ (i:=17) (N:=some 30) (v:=?_) (a':=?_) #[true,true,true,true,true,true,true,true,true,true,true,true,true,true,true,true,true,true,false] rfl rfl (any_of HT_.out (by kernel_rfl)) (fun _ _ _ h=>h) (Or.inl ⟨by rfl,?_⟩) ?_ ?_
           rotate_left
           ·intro w'
            go_simp
            with_reducible rfl
           rotate_left
           ·simp only [nS]
            rfl
           refine pure_ (i:=18) (N:=some 31) (v:=?_) (a':=?_) #[true,true,true,true,true,true,true,true,true,true,true,true,true,true,true,true,true,true,true] rfl rfl (any_of HT_.out (by kernel_rfl)) (fun _ _ _ h=>h) (Or.inl ⟨by rfl,?_⟩) ?_ ?_
           rotate_left
           ·intro w'
            go_simp
            with_reducible rfl
           rotate_left
           ·simp only [nS]
            rfl
           refine done_ (done_of HT_.out (by kernel_rfl)) ?_
           try go_wp2
           go_roundg k1
           case measure=>have:=HK1.out;omega
           case rel=>exact ⟨(wrap64 (x8_1+1)),(by first|rfl|(simp;done)|(simp [*];done)),H',⟨by have:=HK1.out;omega⟩,⟨by (with_reducible repeat (first|refine blk_drewN ?_ _|refine blk_drew ?_|refine blk_alloc ?_ _));exact BK156.out⟩,⟨by repeat (first|(with_reducible first|exact HB.out|apply below_alloc|apply pw_below_drewN|apply below_drew1|refine below_set ?_ GE156.out|refine below_set ?_ GE158.out)|exact HB.out)⟩⟩
         ·rw [if_neg c12] at H
          exact absurd H (by simp)
        ·rw [if_neg c11] at H
         exact absurd H (by simp)
       ·rw [if_neg c9] at H
        have c9b0:decide (0<x8_1)=false:=decide_eq_false c9
        clear c9
        have H':=aK H
        clear H
        have p157:0≤(x8_1:Int):=of_decide_eq_true (by first|(with_reducible assumption)|assumption)
        have q157:x8_1<(l0_1.length:Int):=of_decide_eq_true (by first|(with_reducible assumption)|assumption)
        obtain ⟨ad157,e157,hx157_0,hx157_1,hx157_2,hx157_3⟩:=at_T50 HR0_1.out x8_1 p157 q157
        cases e157
        replace hx157_0:=(HB.out.cell (World.block_lt_of_cell? w _ hx157_0)).trans hx157_0
        replace hx157_1:=(HB.out.cell (World.block_lt_of_cell? w _ hx157_1)).trans hx157_1
        replace hx157_2:=(HB.out.cell (World.block_lt_of_cell? w _ hx157_2)).trans hx157_2
        replace hx157_3:=(HB.out.cell (World.block_lt_of_cell? w _ hx157_3)).trans hx157_3
        replace p157:=eq_true p157
        replace q157:=eq_true q157
        try go_wp2_with (first|((with_reducible refine gate_dst (N:=4) rfl ?_);refine box_event ?hg (N:=4) ?hd (cs:=#[.int .i64 0,.int .i64 0,.int .i64 0,.int .i64 0]) (t:=50) ?hr ?_;(case hd=>rfl);(case hg=>rfl);(case hr=>first|(go_simp;done)|(go_simp;rfl));intro gb158 hg w26 hbox hb;have n0_:=aK (blk_below (g:=gb156) (o:=.cells #[.int .i64 a0_0,.slice (some ad157) l0_1.length c0_1,.slice A0_2 l0_2.length c0_2] 25 (0,0)) (by (with_reducible repeat (first|refine blk_drewN ?_ _|refine blk_drew ?_|refine blk_alloc ?_ _));exact BK156.out) hb);have n1_:=aK (below_step (by repeat (first|(with_reducible first|exact HB.out|apply below_alloc|apply pw_below_drewN|apply below_drew1|refine below_set ?_ GE156.out)|exact HB.out)) hb);have n2_:=aK (hbox);have n3_:=aK ((by rw [hg];exact (below_size (by repeat (first|(with_reducible first|exact HB.out|apply below_alloc|apply pw_below_drewN|apply below_drew1|refine below_set ?_ GE156.out)|exact HB.out))):w.heap.size≤gb158));have n4_:=n3_;have n5_:=aK ((by rw [hg];exact Nat.ne_of_lt (blk_lt (g:=gb156) (o:=.cells #[.int .i64 a0_0,.slice (some ad157) l0_1.length c0_1,.slice A0_2 l0_2.length c0_2] 25 (0,0)) (by (with_reducible repeat (first|refine blk_drewN ?_ _|refine blk_drew ?_|refine blk_alloc ?_ _));exact BK156.out)):gb156≠gb158));have n6_:=aK (Ne.symm n5_.out);clear BK156;clear HB;have BK156:=n0_;have HB:=n1_;have BK158:=n2_;have GW158:=n3_;have GE158:=n4_;have NB156_158:=n5_;have NB158_156:=n6_;clear n0_ n1_ n2_ n3_ n4_ n5_ n6_;clear hb hbox hg;have hnb27:=NB158_156.out;have hnc27:=NB156_158.out;have hcz28_0:w26.cell? ⟨gb158,0,none⟩=some (.int .i64 0):=(blk_cell BK158.out 0).trans rfl;have hcz28_1:w26.cell? ⟨gb158,1,none⟩=some (.int .i64 0):=(blk_cell BK158.out 1).trans rfl;have hcz28_2:w26.cell? ⟨gb158,2,none⟩=some (.int .i64 0):=(blk_cell BK158.out 2).trans rfl;have hcz28_3:w26.cell? ⟨gb158,3,none⟩=some (.int .i64 0):=(blk_cell BK158.out 3).trans rfl;have hfz28_0:=blk_frozen BK158.out 0;have hfz28_1:=blk_frozen BK158.out 1;have hfz28_2:=blk_frozen BK158.out 2;have hfz28_3:=blk_frozen BK158.out 3))
        have n0_:Aside0 (((((w26.setCell ⟨gb158,0,none⟩ (.int .i64 ((rd_T50 l0_1 x8_1).f0))).setCell ⟨gb158,1,none⟩ (.int .i64 ((rd_T50 l0_1 x8_1).f1))).setCell ⟨gb158,2,none⟩ (.int .i64 ((rd_T50 l0_1 x8_1).f2))).setCell ⟨gb158,3,none⟩ (.int .i64 ((rd_T50 l0_1 x8_1).f3))).heap[gb156]?=some (.cells #[.int .i64 a0_0,.slice (some ad157) l0_1.length c0_1,.slice A0_2 l0_2.length c0_2] 25 (0,0))):=⟨by (with_reducible repeat (first|refine blk_drewN ?_ _|refine blk_drew ?_|refine blk_alloc ?_ _));refine blk_far ?_ NB156_158.out _;(with_reducible repeat (first|refine blk_drewN ?_ _|refine blk_drew ?_|refine blk_alloc ?_ _));refine blk_far ?_ NB156_158.out _;(with_reducible repeat (first|refine blk_drewN ?_ _|refine blk_drew ?_|refine blk_alloc ?_ _));refine blk_far ?_ NB156_158.out _;(with_reducible repeat (first|refine blk_drewN ?_ _|refine blk_drew ?_|refine blk_alloc ?_ _));refine blk_far ?_ NB156_158.out _;(with_reducible repeat (first|refine blk_drewN ?_ _|refine blk_drew ?_|refine blk_alloc ?_ _));exact BK156.out⟩
        have n1_:Aside0 (((((w26.setCell ⟨gb158,0,none⟩ (.int .i64 ((rd_T50 l0_1 x8_1).f0))).setCell ⟨gb158,1,none⟩ (.int .i64 ((rd_T50 l0_1 x8_1).f1))).setCell ⟨gb158,2,none⟩ (.int .i64 ((rd_T50 l0_1 x8_1).f2))).setCell ⟨gb158,3,none⟩ (.int .i64 ((rd_T50 l0_1 x8_1).f3))).heap[gb158]?=some (.cells #[.int .i64 ((rd_T50 l0_1 x8_1).f0),.int .i64 ((rd_T50 l0_1 x8_1).f1),.int .i64 ((rd_T50 l0_1 x8_1).f2),.int .i64 ((rd_T50 l0_1 x8_1).f3)] 50 (0,0))):=⟨by (with_reducible repeat (first|refine blk_drewN ?_ _|refine blk_drew ?_|refine blk_alloc ?_ _));refine blk_put (cs:=#[.int .i64 ((rd_T50 l0_1 x8_1).f0),.int .i64 ((rd_T50 l0_1 x8_1).f1),.int .i64 ((rd_T50 l0_1 x8_1).f2),.int .i64 0]) ?_ 3 _ rfl;(with_reducible repeat (first|refine blk_drewN ?_ _|refine blk_drew ?_|refine blk_alloc ?_ _));refine blk_put (cs:=#[.int .i64 ((rd_T50 l0_1 x8_1).f0),.int .i64 ((rd_T50 l0_1 x8_1).f1),.int .i64 0,.int .i64 0]) ?_ 2 _ rfl;(with_reducible repeat (first|refine blk_drewN ?_ _|refine blk_drew ?_|refine blk_alloc ?_ _));refine blk_put (cs:=#[.int .i64 ((rd_T50 l0_1 x8_1).f0),.int .i64 0,.int .i64 0,.int .i64 0]) ?_ 1 _ rfl;(with_reducible repeat (first|refine blk_drewN ?_ _|refine blk_drew ?_|refine blk_alloc ?_ _));refine blk_put (cs:=#[.int .i64 0,.int .i64 0,.int .i64 0,.int .i64 0]) ?_ 0 _ rfl;(with_reducible repeat (first|refine blk_drewN ?_ _|refine blk_drew ?_|refine blk_alloc ?_ _));exact BK158.out⟩
        have n2_:Aside0 (Below w.heap.size w ((((w26.setCell ⟨gb158,0,none⟩ (.int .i64 ((rd_T50 l0_1 x8_1).f0))).setCell ⟨gb158,1,none⟩ (.int .i64 ((rd_T50 l0_1 x8_1).f1))).setCell ⟨gb158,2,none⟩ (.int .i64 ((rd_T50 l0_1 x8_1).f2))).setCell ⟨gb158,3,none⟩ (.int .i64 ((rd_T50 l0_1 x8_1).f3)))):=⟨by repeat (first|(with_reducible first|exact HB.out|apply below_alloc|apply pw_below_drewN|apply below_drew1|refine below_set ?_ GE156.out|refine below_set ?_ GE158.out)|exact HB.out)⟩
        (try clear BK156)
        (try clear BK158)
        (try clear HB)
        generalize ((((w26.setCell ⟨gb158,0,none⟩ (.int .i64 ((rd_T50 l0_1 x8_1).f0))).setCell ⟨gb158,1,none⟩ (.int .i64 ((rd_T50 l0_1 x8_1).f1))).setCell ⟨gb158,2,none⟩ (.int .i64 ((rd_T50 l0_1 x8_1).f2))).setCell ⟨gb158,3,none⟩ (.int .i64 ((rd_T50 l0_1 x8_1).f3)))=w29 at n0_ n1_ n2_ ⊢
        have BK156:=n0_
        have BK158:=n1_
        have HB:=n2_
        clear n0_ n1_ n2_
        have n0_:=aK (blk_drew BK156.out)
        have n1_:=aK (blk_drew BK158.out)
        have n2_:=aK (below_drew1 HB.out)
        clear BK156
        clear BK158
        clear HB
        have BK156:=n0_
        have BK158:=n1_
        have HB:=n2_
        clear n0_ n1_ n2_
        refine start_ (n:=19) (S:=fun w'=>w'.cell? ⟨gb158,0,none⟩=some (.int .i64 ((rd_T50 l0_1 x8_1).f0))∧w'.cell? ⟨gb158,1,none⟩=some (.int .i64 ((rd_T50 l0_1 x8_1).f1))∧w'.cell? ⟨gb158,2,none⟩=some (.int .i64 ((rd_T50 l0_1 x8_1).f2))∧w'.cell? ⟨gb158,3,none⟩=some (.int .i64 ((rd_T50 l0_1 x8_1).f3))) (ds:=[]) #[false,false,false,false,false,false,false,false,false,false,false,false,false,false,false,false,false,false,false] (by kernel_rfl) rfl rfl ⟨(blk_cell BK158.out 0).trans rfl,(blk_cell BK158.out 1).trans rfl,(blk_cell BK158.out 2).trans rfl,(blk_cell BK158.out 3).trans rfl⟩ (fun hHeld=>?_);refine with_tabW fleuronref27_Valid.tab4 fleuronref27_Valid.bits4 (fun HT_ HW_=>?_)
        generalize w29.drew=w30 at BK156 BK158 HB hHeld ⊢
        refine take_ (i:=0) (N:=some 13) (v:=?_) (a':=?_) #[true,false,false,false,false,false,false,false,false,false,false,false,false,false,false,false,false,false,false] rfl rfl (take_ofW HT_.out HW_.out (by kernel_rfl)) (fun _ _ _ h=>h) (Or.inl ⟨by rfl,?_⟩) hHeld ?_ ?_
        rotate_left
        ·rintro w' ⟨s0,s1,s2,s3⟩
         go_simp
         with_reducible rfl
        rotate_left
        ·simp only [nS]
         rfl
        refine one_ (i:=1) (N:=some 14) #[true,true,false,false,false,false,false,false,false,false,false,false,false,false,false,false,false,false,false] rfl rfl (one_of HT_.out (by kernel_rfl)) (by decide) (fun K hK=>?_)
        refine goes_ Tryz.func38 (by kernel_rfl) rfl #[.agg #[.int .i64 ((rd_T50 l0_1 x8_1).f0),.int .i64 ((rd_T50 l0_1 x8_1).f1),.int .i64 ((rd_T50 l0_1 x8_1).f2),.int .i64 ((rd_T50 l0_1 x8_1).f3)]] (by rfl) rfl rfl (by (try simp only [List.map_toArray,List.map_cons,List.map_nil]);first|done|rfl|(simp only [List.length_drop,List.length_take];rfl)) ?_
        with_reducible refine (fleuronref27_char.calls ((rd_T50 l0_1 x8_1).f0) ((rd_T50 l0_1 x8_1).f1) ((rd_T50 l0_1 x8_1).f2) ((rd_T50 l0_1 x8_1).f3) true _ A7.out).mono ?_
        rintro e w31 ⟨rfl,hb⟩
        refine ⟨_,rfl,?_⟩
        have n0_:=aK (blk_below (g:=gb156) (o:=.cells #[.int .i64 a0_0,.slice (some ad157) l0_1.length c0_1,.slice A0_2 l0_2.length c0_2] 25 (0,0)) (by (with_reducible repeat (first|refine blk_drewN ?_ _|refine blk_drew ?_|refine blk_alloc ?_ _));exact BK156.out) hb)
        have n1_:=aK (blk_below (g:=gb158) (o:=.cells #[.int .i64 ((rd_T50 l0_1 x8_1).f0),.int .i64 ((rd_T50 l0_1 x8_1).f1),.int .i64 ((rd_T50 l0_1 x8_1).f2),.int .i64 ((rd_T50 l0_1 x8_1).f3)] 50 (0,0)) (by (with_reducible repeat (first|refine blk_drewN ?_ _|refine blk_drew ?_|refine blk_alloc ?_ _));exact BK158.out) hb)
        have n2_:=aK (below_step (by repeat (first|(with_reducible first|exact HB.out|apply below_alloc|apply pw_below_drewN|apply below_drew1|refine below_set ?_ GE156.out|refine below_set ?_ GE158.out)|exact HB.out)) hb)
        clear BK156
        clear BK158
        clear HB
        have BK156:=n0_
        have BK158:=n1_
        have HB:=n2_
        clear n0_ n1_ n2_
        (try clear hb)
        (try clear hb2)
        (try clear hk)
        (try clear hi)
        refine hK.out _ _ ⟨(blk_cell BK158.out 0).trans rfl,(blk_cell BK158.out 1).trans rfl,(blk_cell BK158.out 2).trans rfl,(blk_cell BK158.out 3).trans rfl⟩ (fun hHeld=>?_)
        clear hK K
        refine norm_ (a':=?_) ?_ ?_;rotate_left;show Act.put _ (some 14) _=_;simp only [nS];rfl
        refine pure_ (i:=2) (N:=some 15) (v:=?_) (a':=?_) #[true,true,true,false,false,false,false,false,false,false,false,false,false,false,false,false,false,false,false] rfl rfl (any_of HT_.out (by kernel_rfl)) (fun _ _ _ h=>h) (Or.inl ⟨by rfl,?_⟩) ?_ ?_
        rotate_left
        ·intro w'
         go_simp
         with_reducible rfl
        rotate_left
        ·simp only [nS]
         rfl
        refine pure_ (i:=3) (N:=some 16) (v:=?_) (a':=?_) #[true,true,true,true,false,false,false,false,false,false,false,false,false,false,false,false,false,false,false] rfl rfl (any_of HT_.out (by kernel_rfl)) (fun _ _ _ h=>h) (Or.inl ⟨by rfl,?_⟩) ?_ ?_
        rotate_left
        ·intro w'
         go_simp
         with_reducible rfl
        rotate_left
        ·simp only [nS]
         rfl
        refine pure_ (i:=4) (N:=some 17) (v:=?_) (a':=?_) #[true,true,true,true,true,false,false,false,false,false,false,false,false,false,false,false,false,false,false] rfl rfl (any_of HT_.out (by kernel_rfl)) (fun _ _ _ h=>h) (Or.inl ⟨by rfl,?_⟩) ?_ ?_
        rotate_left
        ·intro w'
         go_simp
         with_reducible rfl
        rotate_left
        ·simp only [nS]
         rfl
        refine pure_ (i:=5) (N:=some 18) (v:=?_) (a':=?_) #[true,true,true,true,true,true,false,false,false,false,false,false,false,false,false,false,false,false,false] rfl rfl (any_of HT_.out (by kernel_rfl)) (fun _ _ _ h=>h) (Or.inl ⟨by rfl,?_⟩) ?_ ?_
        rotate_left
        ·intro w'
         go_simp
         with_reducible rfl
        rotate_left
        ·simp only [nS]
         rfl
        refine pure_ (i:=6) (N:=some 19) (v:=?_) (a':=?_) #[true,true,true,true,true,true,true,false,false,false,false,false,false,false,false,false,false,false,false] rfl rfl (any_of HT_.out (by kernel_rfl)) (fun _ _ _ h=>h) (Or.inl ⟨by rfl,?_⟩) ?_ ?_
        rotate_left
        ·intro w'
         go_simp
         with_reducible rfl
        rotate_left
        ·simp only [nS]
         rfl
        refine pure_ (i:=7) (N:=some 20) (v:=undef) (a':=?_) #[true,true,true,true,true,true,true,true,false,false,false,false,false,false,false,false,false,false,false] rfl rfl (any_of HT_.out (by kernel_rfl)) (fun _ _ _ h=>h) (Or.inr ⟨by rfl,rfl⟩) ?_ ?_
        rotate_left
        ·simp only [nS]
         rfl
        refine pure_ (i:=8) (N:=some 21) (v:=undef) (a':=?_) #[true,true,true,true,true,true,true,true,true,false,false,false,false,false,false,false,false,false,false] rfl rfl (any_of HT_.out (by kernel_rfl)) (fun _ _ _ h=>h) (Or.inr ⟨by rfl,rfl⟩) ?_ ?_
        rotate_left
        ·simp only [nS]
         rfl
        refine pure_ (i:=9) (N:=some 22) (v:=undef) (a':=?_) #[true,true,true,true,true,true,true,true,true,true,false,false,false,false,false,false,false,false,false] rfl rfl (any_of HT_.out (by kernel_rfl)) (fun _ _ _ h=>h) (Or.inr ⟨by rfl,rfl⟩) ?_ ?_
        rotate_left
        ·simp only [nS]
         rfl
        refine pure_ (i:=10) (N:=some 23) (v:=undef) (a':=?_) #[true,true,true,true,true,true,true,true,true,true,true,false,false,false,false,false,false,false,false] rfl rfl (any_of HT_.out (by kernel_rfl)) (fun _ _ _ h=>h) (Or.inr ⟨by rfl,rfl⟩) ?_ ?_
        rotate_left
        ·simp only [nS]
         rfl
        refine pure_ (i:=11) (N:=some 24) (v:=undef) (a':=?_) #[true,true,true,true,true,true,true,true,true,true,true,true,false,false,false,false,false,false,false] rfl rfl (any_of HT_.out (by kernel_rfl)) (fun _ _ _ h=>h) (Or.inr ⟨by rfl,rfl⟩) ?_ ?_
        rotate_left
        ·simp only [nS]
         rfl
        refine pure_ (i:=12) (N:=some 25) (v:=undef) (a':=?_) #[true,true,true,true,true,true,true,true,true,true,true,true,true,false,false,false,false,false,false] rfl rfl (any_of HT_.out (by kernel_rfl)) (fun _ _ _ h=>h) (Or.inr ⟨by rfl,rfl⟩) ?_ ?_
        rotate_left
        ·simp only [nS]
         rfl
        refine pure_ (i:=13) (N:=some 26) (v:=undef) (a':=?_) #[true,true,true,true,true,true,true,true,true,true,true,true,true,true,false,false,false,false,false] rfl rfl (any_of HT_.out (by kernel_rfl)) (fun _ _ _ h=>h) (Or.inr ⟨by rfl,rfl⟩) ?_ ?_
        rotate_left
        ·simp only [nS]
         rfl
        refine pure_ (i:=14) (N:=some 27) (v:=undef) (a':=?_) #[true,true,true,true,true,true,true,true,true,true,true,true,true,true,true,false,false,false,false] rfl rfl (any_of HT_.out (by kernel_rfl)) (fun _ _ _ h=>h) (Or.inr ⟨by rfl,rfl⟩) ?_ ?_
        rotate_left
        ·simp only [nS]
         rfl
        refine pure_ (i:=15) (N:=some 28) (v:=undef) (a':=?_) #[true,true,true,true,true,true,true,true,true,true,true,true,true,true,true,true,false,false,false] rfl rfl (any_of HT_.out (by kernel_rfl)) (fun _ _ _ h=>h) (Or.inr ⟨by rfl,rfl⟩) ?_ ?_
        rotate_left
        ·simp only [nS]
         rfl
        refine pure_ (i:=16) (N:=some 29) (v:=undef) (a':=?_) #[true,true,true,true,true,true,true,true,true,true,true,true,true,true,true,true,true,false,false] rfl rfl (any_of HT_.out (by kernel_rfl)) (fun _ _ _ h=>h) (Or.inr ⟨by rfl,rfl⟩) ?_ ?_
        rotate_left
        ·simp only [nS]
         rfl
        refine pure_ (i:=17) (N:=some 30) (v:=?_) (a':=?_) #[true,true,true,true,true,true,true,true,true,true,true,true,true,true,true,true,true,true,false] rfl rfl (any_of HT_.out (by kernel_rfl)) (fun _ _ _ h=>h) (Or.inl ⟨by rfl,?_⟩) ?_ ?_
        rotate_left
        ·intro w'
         go_simp
         with_reducible rfl
        rotate_left
        ·simp only [nS]
         rfl
        refine pure_ (i:=18) (N:=some 31) (v:=?_) (a':=?_) #[true,true,true,true,true,true,true,true,true,true,true,true,true,true,true,true,true,true,true] rfl rfl (any_of HT_.out (by kernel_rfl)) (fun _ _ _ h=>h) (Or.inl ⟨by rfl,?_⟩) ?_ ?_
        rotate_left
        ·intro w'
         go_simp
         with_reducible rfl
        rotate_left
        ·simp only [nS]
         rfl
        refine done_ (done_of HT_.out (by kernel_rfl)) ?_
        try go_wp2
        go_roundg k1
        case measure=>have:=HK1.out;omega
        case rel=>exact ⟨(wrap64 (x8_1+1)),(by first|rfl|(simp;done)|(simp [*];done)),H',⟨by have:=HK1.out;omega⟩,⟨by (with_reducible repeat (first|refine blk_drewN ?_ _|refine blk_drew ?_|refine blk_alloc ?_ _));exact BK156.out⟩,⟨by repeat (first|(with_reducible first|exact HB.out|apply below_alloc|apply pw_below_drewN|apply below_drew1|refine below_set ?_ GE156.out|refine below_set ?_ GE158.out)|exact HB.out)⟩⟩
      ·replace c8:=Bool.eq_false_iff.mpr c8
       subst c8
       have H1:(some false)=some r:=by rw [if_neg (show ¬ (false=true) by decide)] at H;exact H
       clear H
       have H:=H1
       clear H1
       obtain rfl:=Option.some.inj H
       have p157:0≤(x8_1:Int):=of_decide_eq_true (by first|(with_reducible assumption)|assumption)
       have q157:x8_1<(l0_1.length:Int):=of_decide_eq_true (by first|(with_reducible assumption)|assumption)
       obtain ⟨ad157,e157,hx157_0,hx157_1,hx157_2,hx157_3⟩:=at_T50 HR0_1.out x8_1 p157 q157
       cases e157
       replace hx157_0:=(HB.out.cell (World.block_lt_of_cell? w _ hx157_0)).trans hx157_0
       replace hx157_1:=(HB.out.cell (World.block_lt_of_cell? w _ hx157_1)).trans hx157_1
       replace hx157_2:=(HB.out.cell (World.block_lt_of_cell? w _ hx157_2)).trans hx157_2
       replace hx157_3:=(HB.out.cell (World.block_lt_of_cell? w _ hx157_3)).trans hx157_3
       replace p157:=eq_true p157
       replace q157:=eq_true q157
       try go_wp2_with (first|((with_reducible refine gate_dst (N:=4) rfl ?_);refine box_event ?hg (N:=4) ?hd (cs:=#[.int .i64 0,.int .i64 0,.int .i64 0,.int .i64 0]) (t:=50) ?hr ?_;(case hd=>rfl);(case hg=>rfl);(case hr=>first|(go_simp;done)|(go_simp;rfl));intro gb158 hg w32 hbox hb;have n0_:=aK (blk_below (g:=gb156) (o:=.cells #[.int .i64 a0_0,.slice (some ad157) l0_1.length c0_1,.slice A0_2 l0_2.length c0_2] 25 (0,0)) (by (with_reducible repeat (first|refine blk_drewN ?_ _|refine blk_drew ?_|refine blk_alloc ?_ _));exact BK156.out) hb);have n1_:=aK (below_step (by repeat (first|(with_reducible first|exact HB.out|apply below_alloc|apply pw_below_drewN|apply below_drew1|refine below_set ?_ GE156.out)|exact HB.out)) hb);have n2_:=aK (hbox);have n3_:=aK ((by rw [hg];exact (below_size (by repeat (first|(with_reducible first|exact HB.out|apply below_alloc|apply pw_below_drewN|apply below_drew1|refine below_set ?_ GE156.out)|exact HB.out))):w.heap.size≤gb158));have n4_:=n3_;have n5_:=aK ((by rw [hg];exact Nat.ne_of_lt (blk_lt (g:=gb156) (o:=.cells #[.int .i64 a0_0,.slice (some ad157) l0_1.length c0_1,.slice A0_2 l0_2.length c0_2] 25 (0,0)) (by (with_reducible repeat (first|refine blk_drewN ?_ _|refine blk_drew ?_|refine blk_alloc ?_ _));exact BK156.out)):gb156≠gb158));have n6_:=aK (Ne.symm n5_.out);clear BK156;clear HB;have BK156:=n0_;have HB:=n1_;have BK158:=n2_;have GW158:=n3_;have GE158:=n4_;have NB156_158:=n5_;have NB158_156:=n6_;clear n0_ n1_ n2_ n3_ n4_ n5_ n6_;clear hb hbox hg;have hnb33:=NB158_156.out;have hnc33:=NB156_158.out;have hcz34_0:w32.cell? ⟨gb158,0,none⟩=some (.int .i64 0):=(blk_cell BK158.out 0).trans rfl;have hcz34_1:w32.cell? ⟨gb158,1,none⟩=some (.int .i64 0):=(blk_cell BK158.out 1).trans rfl;have hcz34_2:w32.cell? ⟨gb158,2,none⟩=some (.int .i64 0):=(blk_cell BK158.out 2).trans rfl;have hcz34_3:w32.cell? ⟨gb158,3,none⟩=some (.int .i64 0):=(blk_cell BK158.out 3).trans rfl;have hfz34_0:=blk_frozen BK158.out 0;have hfz34_1:=blk_frozen BK158.out 1;have hfz34_2:=blk_frozen BK158.out 2;have hfz34_3:=blk_frozen BK158.out 3))
       have n0_:Aside0 (((((w32.setCell ⟨gb158,0,none⟩ (.int .i64 ((rd_T50 l0_1 x8_1).f0))).setCell ⟨gb158,1,none⟩ (.int .i64 ((rd_T50 l0_1 x8_1).f1))).setCell ⟨gb158,2,none⟩ (.int .i64 ((rd_T50 l0_1 x8_1).f2))).setCell ⟨gb158,3,none⟩ (.int .i64 ((rd_T50 l0_1 x8_1).f3))).heap[gb156]?=some (.cells #[.int .i64 a0_0,.slice (some ad157) l0_1.length c0_1,.slice A0_2 l0_2.length c0_2] 25 (0,0))):=⟨by (with_reducible repeat (first|refine blk_drewN ?_ _|refine blk_drew ?_|refine blk_alloc ?_ _));refine blk_far ?_ NB156_158.out _;(with_reducible repeat (first|refine blk_drewN ?_ _|refine blk_drew ?_|refine blk_alloc ?_ _));refine blk_far ?_ NB156_158.out _;(with_reducible repeat (first|refine blk_drewN ?_ _|refine blk_drew ?_|refine blk_alloc ?_ _));refine blk_far ?_ NB156_158.out _;(with_reducible repeat (first|refine blk_drewN ?_ _|refine blk_drew ?_|refine blk_alloc ?_ _));refine blk_far ?_ NB156_158.out _;(with_reducible repeat (first|refine blk_drewN ?_ _|refine blk_drew ?_|refine blk_alloc ?_ _));exact BK156.out⟩
       have n1_:Aside0 (((((w32.setCell ⟨gb158,0,none⟩ (.int .i64 ((rd_T50 l0_1 x8_1).f0))).setCell ⟨gb158,1,none⟩ (.int .i64 ((rd_T50 l0_1 x8_1).f1))).setCell ⟨gb158,2,none⟩ (.int .i64 ((rd_T50 l0_1 x8_1).f2))).setCell ⟨gb158,3,none⟩ (.int .i64 ((rd_T50 l0_1 x8_1).f3))).heap[gb158]?=some (.cells #[.int .i64 ((rd_T50 l0_1 x8_1).f0),.int .i64 ((rd_T50 l0_1 x8_1).f1),.int .i64 ((rd_T50 l0_1 x8_1).f2),.int .i64 ((rd_T50 l0_1 x8_1).f3)] 50 (0,0))):=⟨by (with_reducible repeat (first|refine blk_drewN ?_ _|refine blk_drew ?_|refine blk_alloc ?_ _));refine blk_put (cs:=#[.int .i64 ((rd_T50 l0_1 x8_1).f0),.int .i64 ((rd_T50 l0_1 x8_1).f1),.int .i64 ((rd_T50 l0_1 x8_1).f2),.int .i64 0]) ?_ 3 _ rfl;(with_reducible repeat (first|refine blk_drewN ?_ _|refine blk_drew ?_|refine blk_alloc ?_ _));refine blk_put (cs:=#[.int .i64 ((rd_T50 l0_1 x8_1).f0),.int .i64 ((rd_T50 l0_1 x8_1).f1),.int .i64 0,.int .i64 0]) ?_ 2 _ rfl;(with_reducible repeat (first|refine blk_drewN ?_ _|refine blk_drew ?_|refine blk_alloc ?_ _));refine blk_put (cs:=#[.int .i64 ((rd_T50 l0_1 x8_1).f0),.int .i64 0,.int .i64 0,.int .i64 0]) ?_ 1 _ rfl;(with_reducible repeat (first|refine blk_drewN ?_ _|refine blk_drew ?_|refine blk_alloc ?_ _));refine blk_put (cs:=#[.int .i64 0,.int .i64 0,.int .i64 0,.int .i64 0]) ?_ 0 _ rfl;(with_reducible repeat (first|refine blk_drewN ?_ _|refine blk_drew ?_|refine blk_alloc ?_ _));exact BK158.out⟩
       have n2_:Aside0 (Below w.heap.size w ((((w32.setCell ⟨gb158,0,none⟩ (.int .i64 ((rd_T50 l0_1 x8_1).f0))).setCell ⟨gb158,1,none⟩ (.int .i64 ((rd_T50 l0_1 x8_1).f1))).setCell ⟨gb158,2,none⟩ (.int .i64 ((rd_T50 l0_1 x8_1).f2))).setCell ⟨gb158,3,none⟩ (.int .i64 ((rd_T50 l0_1 x8_1).f3)))):=⟨by repeat (first|(with_reducible first|exact HB.out|apply below_alloc|apply pw_below_drewN|apply below_drew1|refine below_set ?_ GE156.out|refine below_set ?_ GE158.out)|exact HB.out)⟩
       (try clear BK156)
       (try clear BK158)
       (try clear HB)
       generalize ((((w32.setCell ⟨gb158,0,none⟩ (.int .i64 ((rd_T50 l0_1 x8_1).f0))).setCell ⟨gb158,1,none⟩ (.int .i64 ((rd_T50 l0_1 x8_1).f1))).setCell ⟨gb158,2,none⟩ (.int .i64 ((rd_T50 l0_1 x8_1).f2))).setCell ⟨gb158,3,none⟩ (.int .i64 ((rd_T50 l0_1 x8_1).f3)))=w35 at n0_ n1_ n2_ ⊢
       have BK156:=n0_
       have BK158:=n1_
       have HB:=n2_
       clear n0_ n1_ n2_
       have n0_:=aK (blk_drew BK156.out)
       have n1_:=aK (blk_drew BK158.out)
       have n2_:=aK (below_drew1 HB.out)
       clear BK156
       clear BK158
       clear HB
       have BK156:=n0_
       have BK158:=n1_
       have HB:=n2_
       clear n0_ n1_ n2_
       refine start_ (n:=19) (S:=fun w'=>w'.cell? ⟨gb158,0,none⟩=some (.int .i64 ((rd_T50 l0_1 x8_1).f0))∧w'.cell? ⟨gb158,1,none⟩=some (.int .i64 ((rd_T50 l0_1 x8_1).f1))∧w'.cell? ⟨gb158,2,none⟩=some (.int .i64 ((rd_T50 l0_1 x8_1).f2))∧w'.cell? ⟨gb158,3,none⟩=some (.int .i64 ((rd_T50 l0_1 x8_1).f3))) (ds:=[]) #[false,false,false,false,false,false,false,false,false,false,false,false,false,false,false,false,false,false,false] (by kernel_rfl) rfl rfl ⟨(blk_cell BK158.out 0).trans rfl,(blk_cell BK158.out 1).trans rfl,(blk_cell BK158.out 2).trans rfl,(blk_cell BK158.out 3).trans rfl⟩ (fun hHeld=>?_);refine with_tabW fleuronref27_Valid.tab4 fleuronref27_Valid.bits4 (fun HT_ HW_=>?_)
       generalize w35.drew=w36 at BK156 BK158 HB hHeld ⊢
       refine take_ (i:=0) (N:=some 13) (v:=?_) (a':=?_) #[true,false,false,false,false,false,false,false,false,false,false,false,false,false,false,false,false,false,false] rfl rfl (take_ofW HT_.out HW_.out (by kernel_rfl)) (fun _ _ _ h=>h) (Or.inl ⟨by rfl,?_⟩) hHeld ?_ ?_
       rotate_left
       ·rintro w' ⟨s0,s1,s2,s3⟩
        go_simp
        with_reducible rfl
       rotate_left
       ·simp only [nS]
        rfl
       refine one_ (i:=1) (N:=some 14) #[true,true,false,false,false,false,false,false,false,false,false,false,false,false,false,false,false,false,false] rfl rfl (one_of HT_.out (by kernel_rfl)) (by decide) (fun K hK=>?_)
       refine goes_ Tryz.func38 (by kernel_rfl) rfl #[.agg #[.int .i64 ((rd_T50 l0_1 x8_1).f0),.int .i64 ((rd_T50 l0_1 x8_1).f1),.int .i64 ((rd_T50 l0_1 x8_1).f2),.int .i64 ((rd_T50 l0_1 x8_1).f3)]] (by rfl) rfl rfl (by (try simp only [List.map_toArray,List.map_cons,List.map_nil]);first|done|rfl|(simp only [List.length_drop,List.length_take];rfl)) ?_
       with_reducible refine (fleuronref27_char.calls ((rd_T50 l0_1 x8_1).f0) ((rd_T50 l0_1 x8_1).f1) ((rd_T50 l0_1 x8_1).f2) ((rd_T50 l0_1 x8_1).f3) false _ A7.out).mono ?_
       rintro e w37 ⟨rfl,hb⟩
       refine ⟨_,rfl,?_⟩
       have n0_:=aK (blk_below (g:=gb156) (o:=.cells #[.int .i64 a0_0,.slice (some ad157) l0_1.length c0_1,.slice A0_2 l0_2.length c0_2] 25 (0,0)) (by (with_reducible repeat (first|refine blk_drewN ?_ _|refine blk_drew ?_|refine blk_alloc ?_ _));exact BK156.out) hb)
       have n1_:=aK (blk_below (g:=gb158) (o:=.cells #[.int .i64 ((rd_T50 l0_1 x8_1).f0),.int .i64 ((rd_T50 l0_1 x8_1).f1),.int .i64 ((rd_T50 l0_1 x8_1).f2),.int .i64 ((rd_T50 l0_1 x8_1).f3)] 50 (0,0)) (by (with_reducible repeat (first|refine blk_drewN ?_ _|refine blk_drew ?_|refine blk_alloc ?_ _));exact BK158.out) hb)
       have n2_:=aK (below_step (by repeat (first|(with_reducible first|exact HB.out|apply below_alloc|apply pw_below_drewN|apply below_drew1|refine below_set ?_ GE156.out|refine below_set ?_ GE158.out)|exact HB.out)) hb)
       clear BK156
       clear BK158
       clear HB
       have BK156:=n0_
       have BK158:=n1_
       have HB:=n2_
       clear n0_ n1_ n2_
       (try clear hb)
       (try clear hb2)
       (try clear hk)
       (try clear hi)
       refine hK.out _ _ ⟨(blk_cell BK158.out 0).trans rfl,(blk_cell BK158.out 1).trans rfl,(blk_cell BK158.out 2).trans rfl,(blk_cell BK158.out 3).trans rfl⟩ (fun hHeld=>?_)
       clear hK K
       refine norm_ (a':=?_) ?_ ?_;rotate_left;show Act.put _ (some 14) _=_;simp only [nS];rfl
       refine pure_ (i:=2) (N:=some 15) (v:=?_) (a':=?_) #[true,true,true,false,false,false,false,false,false,false,false,false,false,false,false,false,false,false,false] rfl rfl (any_of HT_.out (by kernel_rfl)) (fun _ _ _ h=>h) (Or.inl ⟨by rfl,?_⟩) ?_ ?_
       rotate_left
       ·intro w'
        go_simp
        with_reducible rfl
       rotate_left
       ·simp only [nS]
        rfl
       refine pure_ (i:=3) (N:=some 16) (v:=?_) (a':=?_) #[true,true,true,true,false,false,false,false,false,false,false,false,false,false,false,false,false,false,false] rfl rfl (any_of HT_.out (by kernel_rfl)) (fun _ _ _ h=>h) (Or.inl ⟨by rfl,?_⟩) ?_ ?_
       rotate_left
       ·intro w'
        go_simp
        with_reducible rfl
       rotate_left
       ·simp only [nS]
        rfl
       refine pure_ (i:=4) (N:=some 17) (v:=undef) (a':=?_) #[true,true,true,true,true,false,false,false,false,false,false,false,false,false,false,false,false,false,false] rfl rfl (any_of HT_.out (by kernel_rfl)) (fun _ _ _ h=>h) (Or.inr ⟨by rfl,rfl⟩) ?_ ?_
       rotate_left
       ·simp only [nS]
        rfl
       refine pure_ (i:=5) (N:=some 18) (v:=undef) (a':=?_) #[true,true,true,true,true,true,false,false,false,false,false,false,false,false,false,false,false,false,false] rfl rfl (any_of HT_.out (by kernel_rfl)) (fun _ _ _ h=>h) (Or.inr ⟨by rfl,rfl⟩) ?_ ?_
       rotate_left
       ·simp only [nS]
        rfl
       refine pure_ (i:=6) (N:=some 19) (v:=undef) (a':=?_) #[true,true,true,true,true,true,true,false,false,false,false,false,false,false,false,false,false,false,false] rfl rfl (any_of HT_.out (by kernel_rfl)) (fun _ _ _ h=>h) (Or.inr ⟨by rfl,rfl⟩) ?_ ?_
       rotate_left
       ·simp only [nS]
        rfl
       refine pure_ (i:=7) (N:=some 20) (v:=undef) (a':=?_) #[true,true,true,true,true,true,true,true,false,false,false,false,false,false,false,false,false,false,false] rfl rfl (any_of HT_.out (by kernel_rfl)) (fun _ _ _ h=>h) (Or.inr ⟨by rfl,rfl⟩) ?_ ?_
       rotate_left
       ·simp only [nS]
        rfl
       refine pure_ (i:=8) (N:=some 21) (v:=undef) (a':=?_) #[true,true,true,true,true,true,true,true,true,false,false,false,false,false,false,false,false,false,false] rfl rfl (any_of HT_.out (by kernel_rfl)) (fun _ _ _ h=>h) (Or.inr ⟨by rfl,rfl⟩) ?_ ?_
       rotate_left
       ·simp only [nS]
        rfl
       refine pure_ (i:=9) (N:=some 22) (v:=undef) (a':=?_) #[true,true,true,true,true,true,true,true,true,true,false,false,false,false,false,false,false,false,false] rfl rfl (any_of HT_.out (by kernel_rfl)) (fun _ _ _ h=>h) (Or.inr ⟨by rfl,rfl⟩) ?_ ?_
       rotate_left
       ·simp only [nS]
        rfl
       refine pure_ (i:=10) (N:=some 23) (v:=undef) (a':=?_) #[true,true,true,true,true,true,true,true,true,true,true,false,false,false,false,false,false,false,false] rfl rfl (any_of HT_.out (by kernel_rfl)) (fun _ _ _ h=>h) (Or.inr ⟨by rfl,rfl⟩) ?_ ?_
       rotate_left
       ·simp only [nS]
        rfl
       refine pure_ (i:=11) (N:=some 24) (v:=undef) (a':=?_) #[true,true,true,true,true,true,true,true,true,true,true,true,false,false,false,false,false,false,false] rfl rfl (any_of HT_.out (by kernel_rfl)) (fun _ _ _ h=>h) (Or.inr ⟨by rfl,rfl⟩) ?_ ?_
       rotate_left
       ·simp only [nS]
        rfl
       refine pure_ (i:=12) (N:=some 25) (v:=undef) (a':=?_) #[true,true,true,true,true,true,true,true,true,true,true,true,true,false,false,false,false,false,false] rfl rfl (any_of HT_.out (by kernel_rfl)) (fun _ _ _ h=>h) (Or.inr ⟨by rfl,rfl⟩) ?_ ?_
       rotate_left
       ·simp only [nS]
        rfl
       refine pure_ (i:=13) (N:=some 26) (v:=undef) (a':=?_) #[true,true,true,true,true,true,true,true,true,true,true,true,true,true,false,false,false,false,false] rfl rfl (any_of HT_.out (by kernel_rfl)) (fun _ _ _ h=>h) (Or.inr ⟨by rfl,rfl⟩) ?_ ?_
       rotate_left
       ·simp only [nS]
        rfl
       refine pure_ (i:=14) (N:=some 27) (v:=undef) (a':=?_) #[true,true,true,true,true,true,true,true,true,true,true,true,true,true,true,false,false,false,false] rfl rfl (any_of HT_.out (by kernel_rfl)) (fun _ _ _ h=>h) (Or.inr ⟨by rfl,rfl⟩) ?_ ?_
       rotate_left
       ·simp only [nS]
        rfl
       refine pure_ (i:=15) (N:=some 28) (v:=undef) (a':=?_) #[true,true,true,true,true,true,true,true,true,true,true,true,true,true,true,true,false,false,false] rfl rfl (any_of HT_.out (by kernel_rfl)) (fun _ _ _ h=>h) (Or.inr ⟨by rfl,rfl⟩) ?_ ?_
       rotate_left
       ·simp only [nS]
        rfl
       refine pure_ (i:=16) (N:=some 29) (v:=undef) (a':=?_) #[true,true,true,true,true,true,true,true,true,true,true,true,true,true,true,true,true,false,false] rfl rfl (any_of HT_.out (by kernel_rfl)) (fun _ _ _ h=>h) (Or.inr ⟨by rfl,rfl⟩) ?_ ?_
       rotate_left
       ·simp only [nS]
        rfl
       refine pure_ (i:=17) (N:=some 30) (v:=undef) (a':=?_) #[true,true,true,true,true,true,true,true,true,true,true,true,true,true,true,true,true,true,false] rfl rfl (any_of HT_.out (by kernel_rfl)) (fun _ _ _ h=>h) (Or.inr ⟨by rfl,rfl⟩) ?_ ?_
       rotate_left
       ·simp only [nS]
        rfl
       refine pure_ (i:=18) (N:=some 31) (v:=?_) (a':=?_) #[true,true,true,true,true,true,true,true,true,true,true,true,true,true,true,true,true,true,true] rfl rfl (any_of HT_.out (by kernel_rfl)) (fun _ _ _ h=>h) (Or.inl ⟨by rfl,?_⟩) ?_ ?_
       rotate_left
       ·intro w'
        go_simp
        with_reducible rfl
       rotate_left
       ·simp only [nS]
        rfl
       refine done_ (done_of HT_.out (by kernel_rfl)) ?_
       try go_wp2
       go_ret
       exact ⟨by first|rfl|(simp [errW_none,errW_some] <;> rfl)|(simp [*,errW_none,errW_some] <;> rfl),by repeat (first|(with_reducible first|exact HB.out|apply below_alloc|apply pw_below_drewN|apply below_drew1|refine below_set ?_ GE156.out|refine below_set ?_ GE158.out)|exact HB.out)⟩
     ·rw [if_neg c6] at H
      exact absurd H (by simp)
    ·rw [if_neg c5] at H
     exact absurd H (by simp)
   ·rw [if_neg c4] at H
    have c4b0:decide (x8_1<(l0_1.length:Int))=false:=decide_eq_false c4
    clear c4
    replace H:=Option.bind_eq_some_iff.mp H
    obtain ⟨t161,A380,H⟩:=H
    replace H:(if t161=true then (if (l0_1.length:Int)≤256 then ((fleuronref27_Rules.f k1 l0_2).bind fun t162=>(some t162)) else (some false)) else (some false))=some r:=H
    have A38:=aK A380
    clear A380
    by_cases c39:t161=true
    ·subst c39
     have H1:(if (l0_1.length:Int)≤256 then ((fleuronref27_Rules.f k1 l0_2).bind fun t162=>(some t162)) else (some false))=some r:=by rw [if_pos rfl] at H;exact H
     clear H
     have H:=H1
     clear H1
     by_cases c40:(l0_1.length:Int)≤256
     ·rw [if_pos c40] at H
      have c40b0:decide ((l0_1.length:Int)≤256)=true:=decide_eq_true c40
      have c40b1:decide (l0_1.length≤256)=true:=decide_eq_true (by omega)
      clear c40
      replace H:=Option.bind_eq_some_iff.mp H
      obtain ⟨t162,A410,H⟩:=H
      replace H:(some t162)=some r:=H
      have A41:=aK A410
      clear A410
      obtain rfl:=Option.some.inj H
      have hcz42_0:wr.cell? ⟨gb156,0,none⟩=some (.int .i64 a0_0):=(blk_cell BK156.out 0).trans rfl
      have hcz42_1:wr.cell? ⟨gb156,1,none⟩=some (.slice A0_1 l0_1.length c0_1):=(blk_cell BK156.out 1).trans rfl
      have hcz42_2:wr.cell? ⟨gb156,2,none⟩=some (.slice A0_2 l0_2.length c0_2):=(blk_cell BK156.out 2).trans rfl
      have hfz42_0:=blk_frozen BK156.out 0
      have hfz42_1:=blk_frozen BK156.out 1
      have hfz42_2:=blk_frozen BK156.out 2
      go_wp2_with (first|((with_reducible refine gate_callee (f:=39) rfl ?_);refine goesL_ (some 35) rfl rfl Tryz.func39 (by kernel_rfl) rfl #[.int .i64 a0_0] rfl (by (try simp only [List.map_toArray,List.map_cons,List.map_nil]);first|done|rfl|(simp only [List.length_drop,List.length_take];rfl)) ?_;(with_reducible refine (fleuronref27_Size.calls a0_0 true _ A38.out).mono ?_);rintro e w' ⟨rfl,⟨nd,rfl⟩⟩;refine ⟨_,rfl,?_⟩)|(go_at_call 40;(with_reducible refine (fleuronref27_Rules.calls k1 _ _ l0_2 t162 _ ?side1 ?side2 A41.out).mono ?_);(case side1=>repeat (first|exact (Kd.C_below HR0_2.out (by repeat (first|(with_reducible first|exact HB.out|apply below_alloc|apply pw_below_drewN|apply below_drew1|refine below_set ?_ GE156.out)|exact HB.out)))|(with_reducible refine Kd.C_alloc ?_ _)|(with_reducible refine Kd.C_drewN ?_ _)|(with_reducible refine Kd.C_drew ?_)));(case side2=>exact HC0_2.out);rintro e w43 ⟨rfl,hb⟩;have n0_:=aK (blk_below (g:=gb156) (o:=.cells #[.int .i64 a0_0,.slice A0_1 l0_1.length c0_1,.slice A0_2 l0_2.length c0_2] 25 (0,0)) (by (with_reducible repeat (first|refine blk_drewN ?_ _|refine blk_drew ?_|refine blk_alloc ?_ _));exact BK156.out) hb);have n1_:=aK (below_step (by repeat (first|(with_reducible first|exact HB.out|apply below_alloc|apply pw_below_drewN|apply below_drew1|refine below_set ?_ GE156.out)|exact HB.out)) hb);clear BK156;clear HB;have BK156:=n0_;have HB:=n1_;clear n0_ n1_;(try clear hb);(try clear hb2);(try clear hk);(try clear hi)))
      go_ret
      exact ⟨by first|rfl|(simp [errW_none,errW_some] <;> rfl)|(simp [*,errW_none,errW_some] <;> rfl),by repeat (first|(with_reducible first|exact HB.out|apply below_alloc|apply pw_below_drewN|apply below_drew1|refine below_set ?_ GE156.out)|exact HB.out)⟩
     ·rw [if_neg c40] at H
      have c40b0:decide ((l0_1.length:Int)≤256)=false:=decide_eq_false c40
      have c40b1:decide (l0_1.length≤256)=false:=decide_eq_false (by omega)
      clear c40
      obtain rfl:=Option.some.inj H
      have hcz44_0:wr.cell? ⟨gb156,0,none⟩=some (.int .i64 a0_0):=(blk_cell BK156.out 0).trans rfl
      have hcz44_1:wr.cell? ⟨gb156,1,none⟩=some (.slice A0_1 l0_1.length c0_1):=(blk_cell BK156.out 1).trans rfl
      have hcz44_2:wr.cell? ⟨gb156,2,none⟩=some (.slice A0_2 l0_2.length c0_2):=(blk_cell BK156.out 2).trans rfl
      have hfz44_0:=blk_frozen BK156.out 0
      have hfz44_1:=blk_frozen BK156.out 1
      have hfz44_2:=blk_frozen BK156.out 2
      go_wp2_with (first|((with_reducible refine gate_callee (f:=39) rfl ?_);refine goesL_ (some 35) rfl rfl Tryz.func39 (by kernel_rfl) rfl #[.int .i64 a0_0] rfl (by (try simp only [List.map_toArray,List.map_cons,List.map_nil]);first|done|rfl|(simp only [List.length_drop,List.length_take];rfl)) ?_;(with_reducible refine (fleuronref27_Size.calls a0_0 true _ A38.out).mono ?_);rintro e w' ⟨rfl,⟨nd,rfl⟩⟩;refine ⟨_,rfl,?_⟩))
      go_ret
      exact ⟨by first|rfl|(simp [errW_none,errW_some] <;> rfl)|(simp [*,errW_none,errW_some] <;> rfl),by repeat (first|(with_reducible first|exact HB.out|apply below_alloc|apply pw_below_drewN|apply below_drew1|refine below_set ?_ GE156.out)|exact HB.out)⟩
    ·replace c39:=Bool.eq_false_iff.mpr c39
     subst c39
     have H1:(some false)=some r:=by rw [if_neg (show ¬ (false=true) by decide)] at H;exact H
     clear H
     have H:=H1
     clear H1
     obtain rfl:=Option.some.inj H
     have hcz45_0:wr.cell? ⟨gb156,0,none⟩=some (.int .i64 a0_0):=(blk_cell BK156.out 0).trans rfl
     have hcz45_1:wr.cell? ⟨gb156,1,none⟩=some (.slice A0_1 l0_1.length c0_1):=(blk_cell BK156.out 1).trans rfl
     have hcz45_2:wr.cell? ⟨gb156,2,none⟩=some (.slice A0_2 l0_2.length c0_2):=(blk_cell BK156.out 2).trans rfl
     have hfz45_0:=blk_frozen BK156.out 0
     have hfz45_1:=blk_frozen BK156.out 1
     have hfz45_2:=blk_frozen BK156.out 2
     go_wp2_with (first|((with_reducible refine gate_callee (f:=39) rfl ?_);refine goesL_ (some 35) rfl rfl Tryz.func39 (by kernel_rfl) rfl #[.int .i64 a0_0] rfl (by (try simp only [List.map_toArray,List.map_cons,List.map_nil]);first|done|rfl|(simp only [List.length_drop,List.length_take];rfl)) ?_;(with_reducible refine (fleuronref27_Size.calls a0_0 false _ A38.out).mono ?_);rintro e w' ⟨rfl,⟨nd,rfl⟩⟩;refine ⟨_,rfl,?_⟩))
     go_ret
     exact ⟨by first|rfl|(simp [errW_none,errW_some] <;> rfl)|(simp [*,errW_none,errW_some] <;> rfl),by repeat (first|(with_reducible first|exact HB.out|apply below_alloc|apply pw_below_drewN|apply below_drew1|refine below_set ?_ GE156.out)|exact HB.out)⟩
end Go.Proofs.YtoemkemmiikhlaaGreat.PF1

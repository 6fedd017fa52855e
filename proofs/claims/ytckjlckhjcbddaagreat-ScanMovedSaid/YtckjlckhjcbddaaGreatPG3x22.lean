import Derived.Test.YtckjlckhjcbddaaGreatPG3x0
set_option maxRecDepth 100000
namespace Go.Proofs.YtckjlckhjcbddaaGreat.PG3
open Go.RowKit Go.Proofs.YtckjlckhjcbddaaGreatW.PrintWords Go.Proofs.YtckjlckhjcbddaaGreatW.PrintLast Go.Proofs.YtckjlckhjcbddaaGreatW.PrintMore
attribute [local go_sem] max2_int min2_int max_two min_two max_three min_three max_four min_four
set_option linter.unusedVariables false
set_option linter.unusedSimpArgs false
def fleuronref17_crossing.j0:Nat→Int→Int→Int→Bool→Int→Int→Int→Int→Int→Int→Option (Int×Int×Int)
 | 0,_,_,_,_,_,_,_,_,_,_=>none
 | k+1,x6,x7,x8,x9,x193000,x193001,x194000,x194001,x195000,x195001=>if x9=true then (some (1,wrap64 ((wrap64 (x193000*(wrap64 (x194001-x193001))))+(wrap64 ((wrap64 (x195001-x193001))*(wrap64 (x194000-x193000))))),wrap64 (x194001-x193001))) else (if x194001≤x195001 then (if x195001<x193001 then (some ((-1),wrap64 ((wrap64 (x193000*(wrap64 (x193001-x194001))))+(wrap64 ((wrap64 (x193001-x195001))*(wrap64 (x194000-x193000))))),wrap64 (x193001-x194001))) else (some (x6,x7,x8))) else (some (x6,x7,x8)))
def fleuronref17_crossing.f (k:Nat) (a0_0:Int) (a0_1:Int) (a1_0:Int) (a1_1:Int) (a2_0:Int) (a2_1:Int):Option (Int×Int×Int):=if a0_1≤a2_1 then (fleuronref17_crossing.j0 k 0 0 0 (decide (a2_1<a1_1)) a0_0 a0_1 a1_0 a1_1 a2_0 a2_1) else (fleuronref17_crossing.j0 k 0 0 0 false a0_0 a0_1 a1_0 a1_1 a2_0 a2_1)
theorem fleuronref17_crossing.mono_l : ∀ k,(∀ y0 y1 y2 y3 y4 y5 y6 y7 y8 y9,LeO (fleuronref17_crossing.j0 k y0 y1 y2 y3 y4 y5 y6 y7 y8 y9) (fleuronref17_crossing.j0 (k+1) y0 y1 y2 y3 y4 y5 y6 y7 y8 y9))
 | 0=>fun _ _ _ _ _ _ _ _ _ _ r h=>by simp [fleuronref17_crossing.j0] at h
 | k+1=>by
  have ih0:=fleuronref17_crossing.mono_l k
  ·intro y0 y1 y2 y3 y4 y5 y6 y7 y8 y9
   unfold fleuronref17_crossing.j0
   repeat' first
   | (with_reducible exact ih0 _ _ _ _ _ _ _ _ _ _)
   | (with_reducible exact LeO.refl _)
   | (with_reducible exact LeO.none _)
   | (with_reducible refine LeO.ite ?_ ?_)
   | (with_reducible refine LeO.bind ?_ (fun _=>?_))
   | exact ih0 _ _ _ _ _ _ _ _ _ _
   | exact LeO.none _
   | refine LeO.ite ?_ ?_
   | refine LeO.bind ?_ (fun _=>?_)
theorem fleuronref17_crossing.mono : ∀ a0 a1 a2 a3 a4 a5 k,LeO (fleuronref17_crossing.f k a0 a1 a2 a3 a4 a5) (fleuronref17_crossing.f (k+1) a0 a1 a2 a3 a4 a5):=by
 intro a0 a1 a2 a3 a4 a5 k
 have ih0:=fleuronref17_crossing.mono_l k
 unfold fleuronref17_crossing.f
 repeat' first
   | (with_reducible exact ih0 _ _ _ _ _ _ _ _ _ _)
   | (with_reducible exact LeO.refl _)
   | (with_reducible exact LeO.none _)
   | (with_reducible refine LeO.ite ?_ ?_)
   | (with_reducible refine LeO.bind ?_ (fun _=>?_))
   | exact ih0 _ _ _ _ _ _ _ _ _ _
   | exact LeO.none _
   | refine LeO.ite ?_ ?_
   | refine LeO.bind ?_ (fun _=>?_)
set_option maxHeartbeats 8000000 in
theorem fleuronref17_crossing.calls (k:Nat) (a0_0:Int) (a0_1:Int) (a1_0:Int) (a1_1:Int) (a2_0:Int) (a2_1:Int) (r1:Int) (r2:Int) (r3:Int) (w:World) (h:fleuronref17_crossing.f k a0_0 a0_1 a1_0 a1_1 a2_0 a2_1=some (r1,r2,r3)) :
  Calls Tryz.prog 123 #[.agg #[.int .i64 a0_0,.int .i64 a0_1],.agg #[.int .i64 a1_0,.int .i64 a1_1],.agg #[.int .i64 a2_0,.int .i64 a2_1]] w fun e w'=>e = .returned (.tuple #[.int .i64 r1,.int .i64 r2,.int .i64 r3])∧Below w.heap.size w w':=by
 have hu47:=Tryz.underlying47
 have HB:=aK (Below.refl w.heap.size w)
 have H:(if a0_1≤a2_1 then (fleuronref17_crossing.j0 k 0 0 0 (decide (a2_1<a1_1)) a0_0 a0_1 a1_0 a1_1 a2_0 a2_1) else (fleuronref17_crossing.j0 k 0 0 0 false a0_0 a0_1 a1_0 a1_1 a2_0 a2_1))=some (r1,r2,r3):=h
 clear h
 have HC4:=aK H
 clear H
 go_enter Tryz.func123,Tryz.ntmps123
 go_upto_region 1 with (first|((with_reducible refine gate_dst (N:=3) rfl ?_);refine box_event ?hg (N:=3) ?hd (cs:=#[.int .i64 a0_0,.int .i64 a0_1]) (t:=47) ?hr ?_;(case hd=>rfl);(case hg=>rfl);(case hr=>first|(go_simp;done)|(go_simp;rfl));intro gb192 hg w5 hbox hb;have n0_:=aK (below_step (by repeat (first|(with_reducible first|exact HB.out|apply below_alloc|apply pw_below_drewN|apply below_drew1)|exact HB.out)) hb);have n1_:=aK (hbox);have n2_:=aK ((by rw [hg];exact (below_size (by repeat (first|(with_reducible first|exact HB.out|apply below_alloc|apply pw_below_drewN|apply below_drew1)|exact HB.out))):w.heap.size≤gb192));have n3_:=n2_;clear HB;have HB:=n0_;have BK192:=n1_;have GW192:=n2_;have GE192:=n3_;clear n0_ n1_ n2_ n3_;clear hb hbox hg)|((with_reducible refine gate_dst (N:=4) rfl ?_);refine box_event ?hg (N:=4) ?hd (cs:=#[.int .i64 a1_0,.int .i64 a1_1]) (t:=47) ?hr ?_;(case hd=>rfl);(case hg=>rfl);(case hr=>first|(go_simp;done)|(go_simp;rfl));intro gb193 hg w6 hbox hb;have n0_:=aK (blk_below (g:=gb192) (o:=.cells #[.int .i64 a0_0,.int .i64 a0_1] 47 (0,0)) (by (with_reducible repeat (first|refine blk_drewN ?_ _|refine blk_drew ?_|refine blk_alloc ?_ _));exact BK192.out) hb);have n1_:=aK (below_step (by repeat (first|(with_reducible first|exact HB.out|apply below_alloc|apply pw_below_drewN|apply below_drew1|refine below_set ?_ GE192.out)|exact HB.out)) hb);have n2_:=aK (hbox);have n3_:=aK ((by rw [hg];exact (below_size (by repeat (first|(with_reducible first|exact HB.out|apply below_alloc|apply pw_below_drewN|apply below_drew1|refine below_set ?_ GE192.out)|exact HB.out))):w.heap.size≤gb193));have n4_:=n3_;have n5_:=aK ((by rw [hg];exact Nat.ne_of_lt (blk_lt (g:=gb192) (o:=.cells #[.int .i64 a0_0,.int .i64 a0_1] 47 (0,0)) (by (with_reducible repeat (first|refine blk_drewN ?_ _|refine blk_drew ?_|refine blk_alloc ?_ _));exact BK192.out)):gb192≠gb193));have n6_:=aK (Ne.symm n5_.out);clear BK192;clear HB;have BK192:=n0_;have HB:=n1_;have BK193:=n2_;have GW193:=n3_;have GE193:=n4_;have NB192_193:=n5_;have NB193_192:=n6_;clear n0_ n1_ n2_ n3_ n4_ n5_ n6_;clear hb hbox hg)|((with_reducible refine gate_dst (N:=5) rfl ?_);refine box_event ?hg (N:=5) ?hd (cs:=#[.int .i64 a2_0,.int .i64 a2_1]) (t:=47) ?hr ?_;(case hd=>rfl);(case hg=>rfl);(case hr=>first|(go_simp;done)|(go_simp;rfl));intro gb194 hg w7 hbox hb;have n0_:=aK (blk_below (g:=gb192) (o:=.cells #[.int .i64 a0_0,.int .i64 a0_1] 47 (0,0)) (by (with_reducible repeat (first|refine blk_drewN ?_ _|refine blk_drew ?_|refine blk_alloc ?_ _));exact BK192.out) hb);have n1_:=aK (blk_below (g:=gb193) (o:=.cells #[.int .i64 a1_0,.int .i64 a1_1] 47 (0,0)) (by (with_reducible repeat (first|refine blk_drewN ?_ _|refine blk_drew ?_|refine blk_alloc ?_ _));exact BK193.out) hb);have n2_:=aK (below_step (by repeat (first|(with_reducible first|exact HB.out|apply below_alloc|apply pw_below_drewN|apply below_drew1|refine below_set ?_ GE192.out|refine below_set ?_ GE193.out)|exact HB.out)) hb);have n3_:=aK (hbox);have n4_:=aK ((by rw [hg];exact (below_size (by repeat (first|(with_reducible first|exact HB.out|apply below_alloc|apply pw_below_drewN|apply below_drew1|refine below_set ?_ GE192.out|refine below_set ?_ GE193.out)|exact HB.out))):w.heap.size≤gb194));have n5_:=n4_;have n6_:=aK ((by rw [hg];exact Nat.ne_of_lt (blk_lt (g:=gb192) (o:=.cells #[.int .i64 a0_0,.int .i64 a0_1] 47 (0,0)) (by (with_reducible repeat (first|refine blk_drewN ?_ _|refine blk_drew ?_|refine blk_alloc ?_ _));exact BK192.out)):gb192≠gb194));have n7_:=aK (Ne.symm n6_.out);have n8_:=aK ((by rw [hg];exact Nat.ne_of_lt (blk_lt (g:=gb193) (o:=.cells #[.int .i64 a1_0,.int .i64 a1_1] 47 (0,0)) (by (with_reducible repeat (first|refine blk_drewN ?_ _|refine blk_drew ?_|refine blk_alloc ?_ _));exact BK193.out)):gb193≠gb194));have n9_:=aK (Ne.symm n8_.out);clear BK192;clear BK193;clear HB;have BK192:=n0_;have BK193:=n1_;have HB:=n2_;have BK194:=n3_;have GW194:=n4_;have GE194:=n5_;have NB192_194:=n6_;have NB194_192:=n7_;have NB193_194:=n8_;have NB194_193:=n9_;clear n0_ n1_ n2_ n3_ n4_ n5_ n6_ n7_ n8_ n9_;clear hb hbox hg))
 repeat (go_quiet (fail);go_upto_region 1 with (fail))
 (try simp only [Act.put,lS])
 go_cut [9] (fun v9 wc=>∃ (kq:Nat) (x9_3:Bool),v9 = .bool x9_3∧Aside0 (fleuronref17_crossing.j0 kq 0 0 0 x9_3 a0_0 a0_1 a1_0 a1_1 a2_0 a2_1=some (r1,r2,r3))∧Aside0 (kq≤k)∧Aside0 (wc.heap[gb192]?=some (.cells #[.int .i64 a0_0,.int .i64 a0_1] 47 (0,0)))∧Aside0 (wc.heap[gb193]?=some (.cells #[.int .i64 a1_0,.int .i64 a1_1] 47 (0,0)))∧Aside0 (wc.heap[gb194]?=some (.cells #[.int .i64 a2_0,.int .i64 a2_1] 47 (0,0)))∧Aside0 (Below w.heap.size w wc))
 case first =>
  have H:=HC4.out
  clear HC4
  by_cases c8:a0_1≤a2_1
  ·rw [if_pos c8] at H
   have c8b0:decide (a0_1≤a2_1)=true:=decide_eq_true c8
   clear c8
   (first|rw [c8b0]|(simp only [i64_w,i32_w];rw [c8b0])|skip)
   have H':=aK H
   clear H
   have hnb9:=NB192_193.out
   have hnc9:=NB193_192.out
   have hnb10:=NB192_194.out
   have hnc10:=NB194_192.out
   have hcz11_0:w7.cell? ⟨gb192,0,none⟩=some (.int .i64 a0_0):=(blk_cell BK192.out 0).trans rfl
   have hcz11_1:w7.cell? ⟨gb192,1,none⟩=some (.int .i64 a0_1):=(blk_cell BK192.out 1).trans rfl
   have hfz11_0:=blk_frozen BK192.out 0
   have hfz11_1:=blk_frozen BK192.out 1
   have hnb12:=NB194_193.out
   have hnc12:=NB193_194.out
   have hcz13_0:w7.cell? ⟨gb194,0,none⟩=some (.int .i64 a2_0):=(blk_cell BK194.out 0).trans rfl
   have hcz13_1:w7.cell? ⟨gb194,1,none⟩=some (.int .i64 a2_1):=(blk_cell BK194.out 1).trans rfl
   have hfz13_0:=blk_frozen BK194.out 0
   have hfz13_1:=blk_frozen BK194.out 1
   have hcz14_0:w7.cell? ⟨gb193,0,none⟩=some (.int .i64 a1_0):=(blk_cell BK193.out 0).trans rfl
   have hcz14_1:w7.cell? ⟨gb193,1,none⟩=some (.int .i64 a1_1):=(blk_cell BK193.out 1).trans rfl
   have hfz14_0:=blk_frozen BK193.out 0
   have hfz14_1:=blk_frozen BK193.out 1
   go_wp2
   repeat (go_quiet (fail);try go_wp2)
   go_meet
   case rel=>exact ⟨_,(decide (a2_1<a1_1)),(by first|rfl|(simp;done)|(simp [*];done)),H',⟨by first|omega|exact Nat.le_refl _⟩,⟨by (with_reducible repeat (first|refine blk_drewN ?_ _|refine blk_drew ?_|refine blk_alloc ?_ _));exact BK192.out⟩,⟨by (with_reducible repeat (first|refine blk_drewN ?_ _|refine blk_drew ?_|refine blk_alloc ?_ _));exact BK193.out⟩,⟨by (with_reducible repeat (first|refine blk_drewN ?_ _|refine blk_drew ?_|refine blk_alloc ?_ _));exact BK194.out⟩,⟨by repeat (first|(with_reducible first|exact HB.out|apply below_alloc|apply pw_below_drewN|apply below_drew1|refine below_set ?_ GE192.out|refine below_set ?_ GE193.out|refine below_set ?_ GE194.out)|exact HB.out)⟩⟩
  ·rw [if_neg c8] at H
   have c8b0:decide (a0_1≤a2_1)=false:=decide_eq_false c8
   clear c8
   (first|rw [c8b0]|(simp only [i64_w,i32_w];rw [c8b0])|skip)
   have H':=aK H
   clear H
   have hnb15:=NB192_193.out
   have hnc15:=NB193_192.out
   have hnb16:=NB192_194.out
   have hnc16:=NB194_192.out
   have hcz17_0:w7.cell? ⟨gb192,0,none⟩=some (.int .i64 a0_0):=(blk_cell BK192.out 0).trans rfl
   have hcz17_1:w7.cell? ⟨gb192,1,none⟩=some (.int .i64 a0_1):=(blk_cell BK192.out 1).trans rfl
   have hfz17_0:=blk_frozen BK192.out 0
   have hfz17_1:=blk_frozen BK192.out 1
   have hnb18:=NB194_193.out
   have hnc18:=NB193_194.out
   have hcz19_0:w7.cell? ⟨gb194,0,none⟩=some (.int .i64 a2_0):=(blk_cell BK194.out 0).trans rfl
   have hcz19_1:w7.cell? ⟨gb194,1,none⟩=some (.int .i64 a2_1):=(blk_cell BK194.out 1).trans rfl
   have hfz19_0:=blk_frozen BK194.out 0
   have hfz19_1:=blk_frozen BK194.out 1
   go_wp2
   repeat (go_quiet (fail);try go_wp2)
   go_meet
   case rel=>exact ⟨_,(false),(by first|rfl|(simp;done)|(simp [*];done)),H',⟨by first|omega|exact Nat.le_refl _⟩,⟨by (with_reducible repeat (first|refine blk_drewN ?_ _|refine blk_drew ?_|refine blk_alloc ?_ _));exact BK192.out⟩,⟨by (with_reducible repeat (first|refine blk_drewN ?_ _|refine blk_drew ?_|refine blk_alloc ?_ _));exact BK193.out⟩,⟨by (with_reducible repeat (first|refine blk_drewN ?_ _|refine blk_drew ?_|refine blk_alloc ?_ _));exact BK194.out⟩,⟨by repeat (first|(with_reducible first|exact HB.out|apply below_alloc|apply pw_below_drewN|apply below_drew1|refine below_set ?_ GE192.out|refine below_set ?_ GE193.out|refine below_set ?_ GE194.out)|exact HB.out)⟩⟩
 case rest =>
  clear HC4
  try clear c1
  try clear p2
  try clear c8
  try clear c8b0
  try clear c9
  try clear c10
  try clear c12
  try clear c15
  try clear c16
  try clear c18
  try clear hcz11_0
  try clear hcz11_1
  try clear hcz13_0
  try clear hcz13_1
  try clear hcz14_0
  try clear hcz14_1
  try clear hcz17_0
  try clear hcz17_1
  try clear hcz19_0
  try clear hcz19_1
  try clear hfz11_0
  try clear hfz11_1
  try clear hfz13_0
  try clear hfz13_1
  try clear hfz14_0
  try clear hfz14_1
  try clear hfz17_0
  try clear hfz17_1
  try clear hfz19_0
  try clear hfz19_1
  obtain ⟨kq,x9_3,rfl,HA,HJ3,BK192,BK193,BK194,HB⟩:=hcut
  cases kq with
  | zero=>exact absurd HA.out (by simp [fleuronref17_crossing.j0])
  | succ kj3 =>
   have H:=HA.out
   clear HA
   simp only [fleuronref17_crossing.j0] at H
   by_cases c20:x9_3=true
   ·subst c20
    have H1:(some (1,wrap64 ((wrap64 (a0_0*(wrap64 (a1_1-a0_1))))+(wrap64 ((wrap64 (a2_1-a0_1))*(wrap64 (a1_0-a0_0))))),wrap64 (a1_1-a0_1)))=some (r1,r2,r3):=by rw [if_pos rfl] at H;exact H
    clear H
    have H:=H1
    clear H1
    simp only [Option.some.injEq,Prod.mk.injEq] at H
    obtain ⟨rfl,rfl,rfl⟩:=H
    have hnb21:=NB193_192.out
    have hnc21:=NB192_193.out
    have hnb22:=NB193_194.out
    have hnc22:=NB194_193.out
    have hcz23_0:wc.cell? ⟨gb193,0,none⟩=some (.int .i64 a1_0):=(blk_cell BK193.out 0).trans rfl
    have hcz23_1:wc.cell? ⟨gb193,1,none⟩=some (.int .i64 a1_1):=(blk_cell BK193.out 1).trans rfl
    have hfz23_0:=blk_frozen BK193.out 0
    have hfz23_1:=blk_frozen BK193.out 1
    have hnb24:=NB192_194.out
    have hnc24:=NB194_192.out
    have hcz25_0:wc.cell? ⟨gb192,0,none⟩=some (.int .i64 a0_0):=(blk_cell BK192.out 0).trans rfl
    have hcz25_1:wc.cell? ⟨gb192,1,none⟩=some (.int .i64 a0_1):=(blk_cell BK192.out 1).trans rfl
    have hfz25_0:=blk_frozen BK192.out 0
    have hfz25_1:=blk_frozen BK192.out 1
    have hcz26_0:wc.cell? ⟨gb194,0,none⟩=some (.int .i64 a2_0):=(blk_cell BK194.out 0).trans rfl
    have hcz26_1:wc.cell? ⟨gb194,1,none⟩=some (.int .i64 a2_1):=(blk_cell BK194.out 1).trans rfl
    have hfz26_0:=blk_frozen BK194.out 0
    have hfz26_1:=blk_frozen BK194.out 1
    go_wp2
    repeat (go_quiet (fail);try go_wp2)
    go_ret3
    exact ⟨by first|rfl|(simp [errW_none,errW_some] <;> rfl)|(simp [*,errW_none,errW_some] <;> rfl),by repeat (first|(with_reducible first|exact HB.out|apply below_alloc|apply pw_below_drewN|apply below_drew1|refine below_set ?_ GE192.out|refine below_set ?_ GE193.out|refine below_set ?_ GE194.out)|exact HB.out)⟩
   ·replace c20:=Bool.eq_false_iff.mpr c20
    subst c20
    have H1:(if a1_1≤a2_1 then (if a2_1<a0_1 then (some ((-1),wrap64 ((wrap64 (a0_0*(wrap64 (a0_1-a1_1))))+(wrap64 ((wrap64 (a0_1-a2_1))*(wrap64 (a1_0-a0_0))))),wrap64 (a0_1-a1_1))) else (some (0,0,0))) else (some (0,0,0)))=some (r1,r2,r3):=by rw [if_neg (show ¬ (false=true) by decide)] at H;exact H
    clear H
    have H:=H1
    clear H1
    by_cases c27:a1_1≤a2_1
    ·rw [if_pos c27] at H
     have c27b0:decide (a1_1≤a2_1)=true:=decide_eq_true c27
     clear c27
     by_cases c28:a2_1<a0_1
     ·rw [if_pos c28] at H
      have c28b0:decide (a2_1<a0_1)=true:=decide_eq_true c28
      clear c28
      simp only [Option.some.injEq,Prod.mk.injEq] at H
      obtain ⟨rfl,rfl,rfl⟩:=H
      have hnb29:=NB193_192.out
      have hnc29:=NB192_193.out
      have hnb30:=NB193_194.out
      have hnc30:=NB194_193.out
      have hcz31_0:wc.cell? ⟨gb193,0,none⟩=some (.int .i64 a1_0):=(blk_cell BK193.out 0).trans rfl
      have hcz31_1:wc.cell? ⟨gb193,1,none⟩=some (.int .i64 a1_1):=(blk_cell BK193.out 1).trans rfl
      have hfz31_0:=blk_frozen BK193.out 0
      have hfz31_1:=blk_frozen BK193.out 1
      have hnb32:=NB194_192.out
      have hnc32:=NB192_194.out
      have hcz33_0:wc.cell? ⟨gb194,0,none⟩=some (.int .i64 a2_0):=(blk_cell BK194.out 0).trans rfl
      have hcz33_1:wc.cell? ⟨gb194,1,none⟩=some (.int .i64 a2_1):=(blk_cell BK194.out 1).trans rfl
      have hfz33_0:=blk_frozen BK194.out 0
      have hfz33_1:=blk_frozen BK194.out 1
      have hcz34_0:wc.cell? ⟨gb192,0,none⟩=some (.int .i64 a0_0):=(blk_cell BK192.out 0).trans rfl
      have hcz34_1:wc.cell? ⟨gb192,1,none⟩=some (.int .i64 a0_1):=(blk_cell BK192.out 1).trans rfl
      have hfz34_0:=blk_frozen BK192.out 0
      have hfz34_1:=blk_frozen BK192.out 1
      go_wp2
      repeat (go_quiet (fail);try go_wp2)
      go_ret3
      exact ⟨by first|rfl|(simp [errW_none,errW_some] <;> rfl)|(simp [*,errW_none,errW_some] <;> rfl),by repeat (first|(with_reducible first|exact HB.out|apply below_alloc|apply pw_below_drewN|apply below_drew1|refine below_set ?_ GE192.out|refine below_set ?_ GE193.out|refine below_set ?_ GE194.out)|exact HB.out)⟩
     ·rw [if_neg c28] at H
      have c28b0:decide (a2_1<a0_1)=false:=decide_eq_false c28
      clear c28
      simp only [Option.some.injEq,Prod.mk.injEq] at H
      obtain ⟨rfl,rfl,rfl⟩:=H
      have hnb35:=NB193_192.out
      have hnc35:=NB192_193.out
      have hnb36:=NB193_194.out
      have hnc36:=NB194_193.out
      have hcz37_0:wc.cell? ⟨gb193,0,none⟩=some (.int .i64 a1_0):=(blk_cell BK193.out 0).trans rfl
      have hcz37_1:wc.cell? ⟨gb193,1,none⟩=some (.int .i64 a1_1):=(blk_cell BK193.out 1).trans rfl
      have hfz37_0:=blk_frozen BK193.out 0
      have hfz37_1:=blk_frozen BK193.out 1
      have hnb38:=NB194_192.out
      have hnc38:=NB192_194.out
      have hcz39_0:wc.cell? ⟨gb194,0,none⟩=some (.int .i64 a2_0):=(blk_cell BK194.out 0).trans rfl
      have hcz39_1:wc.cell? ⟨gb194,1,none⟩=some (.int .i64 a2_1):=(blk_cell BK194.out 1).trans rfl
      have hfz39_0:=blk_frozen BK194.out 0
      have hfz39_1:=blk_frozen BK194.out 1
      have hcz40_0:wc.cell? ⟨gb192,0,none⟩=some (.int .i64 a0_0):=(blk_cell BK192.out 0).trans rfl
      have hcz40_1:wc.cell? ⟨gb192,1,none⟩=some (.int .i64 a0_1):=(blk_cell BK192.out 1).trans rfl
      have hfz40_0:=blk_frozen BK192.out 0
      have hfz40_1:=blk_frozen BK192.out 1
      go_wp2
      repeat (go_quiet (fail);try go_wp2)
      go_ret3
      exact ⟨by first|rfl|(simp [errW_none,errW_some] <;> rfl)|(simp [*,errW_none,errW_some] <;> rfl),by repeat (first|(with_reducible first|exact HB.out|apply below_alloc|apply pw_below_drewN|apply below_drew1|refine below_set ?_ GE192.out|refine below_set ?_ GE193.out|refine below_set ?_ GE194.out)|exact HB.out)⟩
    ·rw [if_neg c27] at H
     have c27b0:decide (a1_1≤a2_1)=false:=decide_eq_false c27
     clear c27
     simp only [Option.some.injEq,Prod.mk.injEq] at H
     obtain ⟨rfl,rfl,rfl⟩:=H
     have hnb41:=NB193_192.out
     have hnc41:=NB192_193.out
     have hnb42:=NB193_194.out
     have hnc42:=NB194_193.out
     have hcz43_0:wc.cell? ⟨gb193,0,none⟩=some (.int .i64 a1_0):=(blk_cell BK193.out 0).trans rfl
     have hcz43_1:wc.cell? ⟨gb193,1,none⟩=some (.int .i64 a1_1):=(blk_cell BK193.out 1).trans rfl
     have hfz43_0:=blk_frozen BK193.out 0
     have hfz43_1:=blk_frozen BK193.out 1
     have hnb44:=NB194_192.out
     have hnc44:=NB192_194.out
     have hcz45_0:wc.cell? ⟨gb194,0,none⟩=some (.int .i64 a2_0):=(blk_cell BK194.out 0).trans rfl
     have hcz45_1:wc.cell? ⟨gb194,1,none⟩=some (.int .i64 a2_1):=(blk_cell BK194.out 1).trans rfl
     have hfz45_0:=blk_frozen BK194.out 0
     have hfz45_1:=blk_frozen BK194.out 1
     go_wp2
     repeat (go_quiet (fail);try go_wp2)
     go_ret3
     exact ⟨by first|rfl|(simp [errW_none,errW_some] <;> rfl)|(simp [*,errW_none,errW_some] <;> rfl),by repeat (first|(with_reducible first|exact HB.out|apply below_alloc|apply pw_below_drewN|apply below_drew1|refine below_set ?_ GE192.out|refine below_set ?_ GE193.out|refine below_set ?_ GE194.out)|exact HB.out)⟩
def fleuronref17_next.f (l0:List (S47)) (a1:Int):Option (Int×Int):=if (l0.length:Int)=0 then (none) else (if 0≤(Int.tmod (wrap64 (a1+1)) (l0.length:Int)) then (if (Int.tmod (wrap64 (a1+1)) (l0.length:Int))<(l0.length:Int) then (some ((rd_T47 l0 (Int.tmod (wrap64 (a1+1)) (l0.length:Int))).f0,(rd_T47 l0 (Int.tmod (wrap64 (a1+1)) (l0.length:Int))).f1)) else (none)) else (none))
set_option maxHeartbeats 8000000 in
theorem fleuronref17_next.calls (A0:Option Addr) (c0:Nat) (l0:List (S47)) (a1:Int) (r1:Int) (r2:Int) (w:World) (hr0:Kd.C k47 w A0 l0.length l0) (hc0:l0.length≤c0) (h:fleuronref17_next.f l0 a1=some (r1,r2)) :
  Calls Tryz.prog 124 #[.slice A0 l0.length c0,.int .i64 a1] w fun e w'=>e = .returned (.agg #[.int .i64 r1,.int .i64 r2])∧Below w.heap.size w w':=by
 have hu47:=Tryz.underlying47
 have HR0:=aK hr0
 have HC0:=aK hc0
 clear hr0 hc0
 have HB:=aK (Below.refl w.heap.size w)
 have H:(if (l0.length:Int)=0 then (none) else (if 0≤(Int.tmod (wrap64 (a1+1)) (l0.length:Int)) then (if (Int.tmod (wrap64 (a1+1)) (l0.length:Int))<(l0.length:Int) then (some ((rd_T47 l0 (Int.tmod (wrap64 (a1+1)) (l0.length:Int))).f0,(rd_T47 l0 (Int.tmod (wrap64 (a1+1)) (l0.length:Int))).f1)) else (none)) else (none)))=some (r1,r2):=h
 clear h
 by_cases c3:(l0.length:Int)=0
 ·rw [if_pos c3] at H
  exact absurd H (by simp)
 ·rw [if_neg c3] at H
  have c3b0:((l0.length:Int) == 0)=false:=beq_eq_false_iff_ne.mpr c3
  have c3b1:((l0.length:Int) != 0)=true:=bne_iff_ne.mpr c3
  have c3b2 : ¬ (l0=[]):=fun h_=>c3 (by rw [h_];rfl)
  obtain ⟨ji4,hji4⟩ : ∃ j_:Int,(Int.tmod (wrap64 (a1+1)) (l0.length:Int))=j_:=⟨_,rfl⟩
  replace H:(if 0≤(ji4) then (if (ji4)<(l0.length:Int) then (some ((rd_T47 l0 (ji4)).f0,(rd_T47 l0 (ji4)).f1)) else (none)) else (none))=some (r1,r2):=by first|(rw [hji4] at H;exact H)|(simp only [hji4] at H ⊢;exact H)
  by_cases c5:0≤(ji4)
  ·rw [if_pos c5] at H
   have c5b0:decide (0≤(ji4))=true:=decide_eq_true c5
   clear c5
   by_cases c6:(ji4)<(l0.length:Int)
   ·rw [if_pos c6] at H
    have c6b0:decide ((ji4)<(l0.length:Int))=true:=decide_eq_true c6
    clear c6
    simp only [Option.some.injEq,Prod.mk.injEq] at H
    obtain ⟨rfl,rfl⟩:=H
    go_enter Tryz.func124,Tryz.ntmps124
    go_wp2_with ((with_reducible refine gate_dst (N:=4) rfl ?_);refine box_event ?hg (N:=4) ?hd (cs:=#[.int .i64 0,.int .i64 0]) (t:=47) ?hr ?_;(case hd=>rfl);(case hg=>rfl);(case hr=>first|(go_simp;done)|(go_simp;rfl));intro gb195 hg w7 hbox hb;have n0_:=aK (below_step (by repeat (first|(with_reducible first|exact HB.out|apply below_alloc|apply pw_below_drewN|apply below_drew1)|exact HB.out)) hb);have n1_:=aK (hbox);have n2_:=aK ((by rw [hg];exact (below_size (by repeat (first|(with_reducible first|exact HB.out|apply below_alloc|apply pw_below_drewN|apply below_drew1)|exact HB.out))):w.heap.size≤gb195));have n3_:=n2_;clear HB;have HB:=n0_;have BK195:=n1_;have GW195:=n2_;have GE195:=n3_;clear n0_ n1_ n2_ n3_;clear hb hbox hg;have p196:0≤((ji4):Int):=of_decide_eq_true (by first|(with_reducible assumption)|assumption);have q196:(ji4)<(l0.length:Int):=of_decide_eq_true (by first|(with_reducible assumption)|assumption);obtain ⟨ad196,e196,hx196_0,hx196_1⟩:=at_T47 HR0.out (ji4) p196 q196;cases e196;replace hx196_0:=(HB.out.cell (World.block_lt_of_cell? w _ hx196_0)).trans hx196_0;replace hx196_1:=(HB.out.cell (World.block_lt_of_cell? w _ hx196_1)).trans hx196_1;replace p196:=eq_true p196;replace q196:=eq_true q196;have hcz8_0:w7.cell? ⟨gb195,0,none⟩=some (.int .i64 0):=(blk_cell BK195.out 0).trans rfl;have hcz8_1:w7.cell? ⟨gb195,1,none⟩=some (.int .i64 0):=(blk_cell BK195.out 1).trans rfl;have hfz8_0:=blk_frozen BK195.out 0;have hfz8_1:=blk_frozen BK195.out 1)
    refine bodyPost_ret (results_cell_row rfl _ _ gb195 47 #[.int .i64 ((rd_T47 l0 (ji4)).f0),.int .i64 ((rd_T47 l0 (ji4)).f1)] (0,0) _ rfl (by (with_reducible repeat (first|refine blk_drewN ?_ _|refine blk_drew ?_|refine blk_alloc ?_ _));refine blk_put (cs:=#[.int .i64 ((rd_T47 l0 (ji4)).f0),.int .i64 0]) ?_ 1 _ rfl;(with_reducible repeat (first|refine blk_drewN ?_ _|refine blk_drew ?_|refine blk_alloc ?_ _));refine blk_put (cs:=#[.int .i64 0,.int .i64 0]) ?_ 0 _ rfl;(with_reducible repeat (first|refine blk_drewN ?_ _|refine blk_drew ?_|refine blk_alloc ?_ _));exact BK195.out) Tryz.underlying47 rfl (by kernel_rfl)) rfl ?_
    exact ⟨by first|rfl|(simp [errW_none,errW_some] <;> rfl)|(simp only [← hji4];first|rfl|(simp [errW_none,errW_some] <;> rfl))|(simp [*,errW_none,errW_some] <;> rfl),by repeat (first|(with_reducible first|exact HB.out|apply below_alloc|apply pw_below_drewN|apply below_drew1|refine below_set ?_ GE195.out)|exact HB.out)⟩
   ·rw [if_neg c6] at H
    exact absurd H (by simp)
  ·rw [if_neg c5] at H
   exact absurd H (by simp)
end Go.Proofs.YtckjlckhjcbddaaGreat.PG3

import Derived.Test.YtckjlckhjcbddaaGreatPG3x0
import Derived.Test.YtckjlckhjcbddaaGreatPG3x17
import Derived.Test.YtckjlckhjcbddaaGreatPG3x19
namespace Go.Proofs.YtckjlckhjcbddaaGreat.PG3
open Go.RowKit Go.Proofs.YtckjlckhjcbddaaGreatW.PrintWords Go.Proofs.YtckjlckhjcbddaaGreatW.PrintLast Go.Proofs.YtckjlckhjcbddaaGreatW.PrintMore
attribute [local go_sem] max2_int min2_int max_two min_two max_three min_three max_four min_four
private theorem run_ix92_0 (w:World) (a b c d:Value):(Instr.index 92 (.agg #[a,b,c,d]) (.int .i64 0)).run Tryz.prog w = .ok (.agg #[a,b]) w:=by
 simp [Instr.index,go_sem,Tryz.isAgg47,Tryz.sizeOf47]
private theorem run_ix92_1 (w:World) (a b c d:Value):(Instr.index 92 (.agg #[a,b,c,d]) (.int .i64 1)).run Tryz.prog w = .ok (.agg #[c,d]) w:=by
 simp [Instr.index,go_sem,Tryz.isAgg47,Tryz.sizeOf47]
private theorem run_fd47_0 (w:World) (a b:Value):(Instr.field 47 (.agg #[a,b]) 0).run Tryz.prog w = .ok a w:=by
 simp [Instr.field,go_sem,asAgg,Tryz.isAgg3,Tryz.sizeOf3]
private theorem run_fd47_1 (w:World) (a b:Value):(Instr.field 47 (.agg #[a,b]) 1).run Tryz.prog w = .ok b w:=by
 simp [Instr.field,go_sem,asAgg,Tryz.isAgg3,Tryz.sizeOf3]
attribute [local go_sem high] run_ix92_0 run_ix92_1 run_fd47_0 run_fd47_1
set_option linter.unusedVariables false
set_option linter.unusedSimpArgs false
mutual
def fleuronref19_Rows.l0:Nat→List (List (S47))→Int→Int→Int→Option (Int×Int×Int)
 | 0,_,_,_,_=>none
 | k+1,x0,x17,x236000,x236001=>if x17<256 then ((fleuronref19_Sample.f 0 x17).bind fun bt236=>(fleuronref19_Rows.l1 k x0 x17 bt236.2 x17 x0 (x0.length:Int) 0 x236000 x236001)) else (if x236000<0 then (some (0,0,4)) else (some (x236000,x236001,0)))
def fleuronref19_Rows.l1:Nat→List (List (S47))→Int→Int→Int→List (List (S47))→Int→Int→Int→Int→Option (Int×Int×Int)
 | 0,_,_,_,_,_,_,_,_,_=>none
 | k+1,x0,x5,x6,x17,x23,x24,x25,x236000,x236001=>if x25<x24 then (if 0≤x25 then (if x25<(x23.length:Int) then (fleuronref19_Rows.l2 k x0 x5 x6 (rd_L2 x23 x25) x17 x23 x24 x25 (rd_L2 x23 x25) ((rd_L2 x23 x25).length:Int) 0 x236000 x236001) else (none)) else (none)) else (fleuronref19_Rows.l0 k x0 (wrap64 (x17+1)) x236000 x236001)
def fleuronref19_Rows.l2:Nat→List (List (S47))→Int→Int→List (S47)→Int→List (List (S47))→Int→Int→List (S47)→Int→Int→Int→Int→Option (Int×Int×Int)
 | 0,_,_,_,_,_,_,_,_,_,_,_,_,_=>none
 | k+1,x0,x5,x6,x8,x17,x23,x24,x25,x29,x30,x31,x236000,x236001=>if x31<x30 then (if 0≤x31 then (if x31<(x29.length:Int) then (if (x8.length:Int)=0 then (none) else (if 0≤(Int.tmod (wrap64 (x31+1)) (x8.length:Int)) then (if (Int.tmod (wrap64 (x31+1)) (x8.length:Int))<(x8.length:Int) then (if ((rd_T47 x29 x31).f1)≤x6 then (if x6<((rd_T47 x8 (Int.tmod (wrap64 (x31+1)) (x8.length:Int))).f1) then (fleuronref19_Rows.j3 k x0 x5 x6 x8 x17 x23 x24 x25 x29 x30 x31 true x236000 x236001) else (if ((rd_T47 x8 (Int.tmod (wrap64 (x31+1)) (x8.length:Int))).f1)≤x6 then (fleuronref19_Rows.j3 k x0 x5 x6 x8 x17 x23 x24 x25 x29 x30 x31 (decide (x6<((rd_T47 x29 x31).f1))) x236000 x236001) else (fleuronref19_Rows.j3 k x0 x5 x6 x8 x17 x23 x24 x25 x29 x30 x31 false x236000 x236001))) else (if ((rd_T47 x8 (Int.tmod (wrap64 (x31+1)) (x8.length:Int))).f1)≤x6 then (fleuronref19_Rows.j3 k x0 x5 x6 x8 x17 x23 x24 x25 x29 x30 x31 (decide (x6<((rd_T47 x29 x31).f1))) x236000 x236001) else (fleuronref19_Rows.j3 k x0 x5 x6 x8 x17 x23 x24 x25 x29 x30 x31 false x236000 x236001))) else (none)) else (none))) else (none)) else (none)) else (fleuronref19_Rows.l1 k x0 x5 x6 x17 x23 x24 (wrap64 (x25+1)) x236000 x236001)
def fleuronref19_Rows.j3:Nat→List (List (S47))→Int→Int→List (S47)→Int→List (List (S47))→Int→Int→List (S47)→Int→Int→Bool→Int→Int→Option (Int×Int×Int)
 | 0,_,_,_,_,_,_,_,_,_,_,_,_,_,_=>none
 | k+1,x0,x5,x6,x8,x17,x23,x24,x25,x29,x30,x31,x65,x236000,x236001=>if x65=true then (if x236000<0 then (fleuronref19_Rows.l2 k x0 x5 x6 x8 x17 x23 x24 x25 x29 x30 (wrap64 (x31+1)) x5 x5) else (fleuronref19_Rows.l2 k x0 x5 x6 x8 x17 x23 x24 x25 x29 x30 (wrap64 (x31+1)) x236000 x5)) else (fleuronref19_Rows.l2 k x0 x5 x6 x8 x17 x23 x24 x25 x29 x30 (wrap64 (x31+1)) x236000 x236001)
end
def fleuronref19_Rows.f (k:Nat) (l0:List (List (S47))):Option (Int×Int×Int):=(fleuronref17_Some.f k l0).bind fun t234=>(if t234=true then (fleuronref19_Rows.l0 k l0 0 (-1) (-1)) else (some (0,0,2)))
theorem fleuronref19_Rows.mono_l : ∀ k,(∀ y0 y1 y2 y3,LeO (fleuronref19_Rows.l0 k y0 y1 y2 y3) (fleuronref19_Rows.l0 (k+1) y0 y1 y2 y3))∧(∀ y0 y1 y2 y3 y4 y5 y6 y7 y8,LeO (fleuronref19_Rows.l1 k y0 y1 y2 y3 y4 y5 y6 y7 y8) (fleuronref19_Rows.l1 (k+1) y0 y1 y2 y3 y4 y5 y6 y7 y8))∧(∀ y0 y1 y2 y3 y4 y5 y6 y7 y8 y9 y10 y11 y12,LeO (fleuronref19_Rows.l2 k y0 y1 y2 y3 y4 y5 y6 y7 y8 y9 y10 y11 y12) (fleuronref19_Rows.l2 (k+1) y0 y1 y2 y3 y4 y5 y6 y7 y8 y9 y10 y11 y12))∧(∀ y0 y1 y2 y3 y4 y5 y6 y7 y8 y9 y10 y11 y12 y13,LeO (fleuronref19_Rows.j3 k y0 y1 y2 y3 y4 y5 y6 y7 y8 y9 y10 y11 y12 y13) (fleuronref19_Rows.j3 (k+1) y0 y1 y2 y3 y4 y5 y6 y7 y8 y9 y10 y11 y12 y13))
 | 0=>⟨fun _ _ _ _ r h=>by simp [fleuronref19_Rows.l0] at h,fun _ _ _ _ _ _ _ _ _ r h=>by simp [fleuronref19_Rows.l1] at h,fun _ _ _ _ _ _ _ _ _ _ _ _ _ r h=>by simp [fleuronref19_Rows.l2] at h,fun _ _ _ _ _ _ _ _ _ _ _ _ _ _ r h=>by simp [fleuronref19_Rows.j3] at h⟩
 | k+1=>by
  obtain ⟨ih0,ih1,ih2,ih3⟩:=fleuronref19_Rows.mono_l k
  refine ⟨?_,?_,?_,?_⟩
  ·intro y0 y1 y2 y3
   unfold fleuronref19_Rows.l0
   repeat' first
   | (with_reducible exact ih0 _ _ _ _)
   | (with_reducible exact ih1 _ _ _ _ _ _ _ _ _)
   | (with_reducible exact ih2 _ _ _ _ _ _ _ _ _ _ _ _ _)
   | (with_reducible exact ih3 _ _ _ _ _ _ _ _ _ _ _ _ _ _)
   | (with_reducible exact fleuronref17_Some.mono _ _)
   | (with_reducible exact LeO.refl _)
   | (with_reducible exact LeO.none _)
   | (with_reducible refine LeO.ite ?_ ?_)
   | (with_reducible refine LeO.bind ?_ (fun _=>?_))
   | exact ih0 _ _ _ _
   | exact ih1 _ _ _ _ _ _ _ _ _
   | exact ih2 _ _ _ _ _ _ _ _ _ _ _ _ _
   | exact ih3 _ _ _ _ _ _ _ _ _ _ _ _ _ _
   | exact fleuronref17_Some.mono _ _
   | exact LeO.none _
   | refine LeO.ite ?_ ?_
   | refine LeO.bind ?_ (fun _=>?_)
  ·intro y0 y1 y2 y3 y4 y5 y6 y7 y8
   unfold fleuronref19_Rows.l1
   repeat' first
   | (with_reducible exact ih0 _ _ _ _)
   | (with_reducible exact ih1 _ _ _ _ _ _ _ _ _)
   | (with_reducible exact ih2 _ _ _ _ _ _ _ _ _ _ _ _ _)
   | (with_reducible exact ih3 _ _ _ _ _ _ _ _ _ _ _ _ _ _)
   | (with_reducible exact fleuronref17_Some.mono _ _)
   | (with_reducible exact LeO.refl _)
   | (with_reducible exact LeO.none _)
   | (with_reducible refine LeO.ite ?_ ?_)
   | (with_reducible refine LeO.bind ?_ (fun _=>?_))
   | exact ih0 _ _ _ _
   | exact ih1 _ _ _ _ _ _ _ _ _
   | exact ih2 _ _ _ _ _ _ _ _ _ _ _ _ _
   | exact ih3 _ _ _ _ _ _ _ _ _ _ _ _ _ _
   | exact fleuronref17_Some.mono _ _
   | exact LeO.none _
   | refine LeO.ite ?_ ?_
   | refine LeO.bind ?_ (fun _=>?_)
  ·intro y0 y1 y2 y3 y4 y5 y6 y7 y8 y9 y10 y11 y12
   unfold fleuronref19_Rows.l2
   repeat' first
   | (with_reducible exact ih0 _ _ _ _)
   | (with_reducible exact ih1 _ _ _ _ _ _ _ _ _)
   | (with_reducible exact ih2 _ _ _ _ _ _ _ _ _ _ _ _ _)
   | (with_reducible exact ih3 _ _ _ _ _ _ _ _ _ _ _ _ _ _)
   | (with_reducible exact fleuronref17_Some.mono _ _)
   | (with_reducible exact LeO.refl _)
   | (with_reducible exact LeO.none _)
   | (with_reducible refine LeO.ite ?_ ?_)
   | (with_reducible refine LeO.bind ?_ (fun _=>?_))
   | exact ih0 _ _ _ _
   | exact ih1 _ _ _ _ _ _ _ _ _
   | exact ih2 _ _ _ _ _ _ _ _ _ _ _ _ _
   | exact ih3 _ _ _ _ _ _ _ _ _ _ _ _ _ _
   | exact fleuronref17_Some.mono _ _
   | exact LeO.none _
   | refine LeO.ite ?_ ?_
   | refine LeO.bind ?_ (fun _=>?_)
  ·intro y0 y1 y2 y3 y4 y5 y6 y7 y8 y9 y10 y11 y12 y13
   unfold fleuronref19_Rows.j3
   repeat' first
   | (with_reducible exact ih0 _ _ _ _)
   | (with_reducible exact ih1 _ _ _ _ _ _ _ _ _)
   | (with_reducible exact ih2 _ _ _ _ _ _ _ _ _ _ _ _ _)
   | (with_reducible exact ih3 _ _ _ _ _ _ _ _ _ _ _ _ _ _)
   | (with_reducible exact fleuronref17_Some.mono _ _)
   | (with_reducible exact LeO.refl _)
   | (with_reducible exact LeO.none _)
   | (with_reducible refine LeO.ite ?_ ?_)
   | (with_reducible refine LeO.bind ?_ (fun _=>?_))
   | exact ih0 _ _ _ _
   | exact ih1 _ _ _ _ _ _ _ _ _
   | exact ih2 _ _ _ _ _ _ _ _ _ _ _ _ _
   | exact ih3 _ _ _ _ _ _ _ _ _ _ _ _ _ _
   | exact fleuronref17_Some.mono _ _
   | exact LeO.none _
   | refine LeO.ite ?_ ?_
   | refine LeO.bind ?_ (fun _=>?_)
theorem fleuronref19_Rows.mono : ∀ a0 k,LeO (fleuronref19_Rows.f k a0) (fleuronref19_Rows.f (k+1) a0):=by
 intro a0 k
 obtain ⟨ih0,ih1,ih2,ih3⟩:=fleuronref19_Rows.mono_l k
 unfold fleuronref19_Rows.f
 repeat' first
   | (with_reducible exact ih0 _ _ _ _)
   | (with_reducible exact ih1 _ _ _ _ _ _ _ _ _)
   | (with_reducible exact ih2 _ _ _ _ _ _ _ _ _ _ _ _ _)
   | (with_reducible exact ih3 _ _ _ _ _ _ _ _ _ _ _ _ _ _)
   | (with_reducible exact fleuronref17_Some.mono _ _)
   | (with_reducible exact LeO.refl _)
   | (with_reducible exact LeO.none _)
   | (with_reducible refine LeO.ite ?_ ?_)
   | (with_reducible refine LeO.bind ?_ (fun _=>?_))
   | exact ih0 _ _ _ _
   | exact ih1 _ _ _ _ _ _ _ _ _
   | exact ih2 _ _ _ _ _ _ _ _ _ _ _ _ _
   | exact ih3 _ _ _ _ _ _ _ _ _ _ _ _ _ _
   | exact fleuronref17_Some.mono _ _
   | exact LeO.none _
   | refine LeO.ite ?_ ?_
   | refine LeO.bind ?_ (fun _=>?_)
set_option maxHeartbeats 8000000 in
set_option maxRecDepth 100000 in
theorem fleuronref19_Rows.calls (k:Nat) (A0:Option Addr) (c0:Nat) (l0:List (List (S47))) (r1:Int) (r2:Int) (r3:Int) (w:World) (hr0:Kd.C (Kd.slice 47 k47) w A0 l0.length l0) (hc0:l0.length≤c0) (h:fleuronref19_Rows.f k l0=some (r1,r2,r3)) :
  Calls Tryz.prog 13 #[.slice A0 l0.length c0] w fun e w'=>e = .returned (.tuple #[.agg #[.int .i64 r1,.int .i64 r2],.int .i64 r3])∧Below w.heap.size w w':=by
 have hu23:=Tryz.underlying23
 have hu47:=Tryz.underlying47
 have HR0:=aK hr0
 have HC0:=aK hc0
 clear hr0 hc0
 have HB:=aK (Below.refl w.heap.size w)
 have H:((fleuronref17_Some.f k l0).bind fun t234=>(if t234=true then (fleuronref19_Rows.l0 k l0 0 (-1) (-1)) else (some (0,0,2))))=some (r1,r2,r3):=h
 clear h
 replace H:=Option.bind_eq_some_iff.mp H
 obtain ⟨t234,A20,H⟩:=H
 replace H:(if t234=true then (fleuronref19_Rows.l0 k l0 0 (-1) (-1)) else (some (0,0,2)))=some (r1,r2,r3):=H
 have A2:=aK A20
 clear A20
 by_cases c3:t234=true
 ·subst c3
  have H1:(fleuronref19_Rows.l0 k l0 0 (-1) (-1))=some (r1,r2,r3):=by rw [if_pos rfl] at H;exact H
  clear H
  have H:=H1
  clear H1
  have H':=aK H
  clear H
  go_enter Tryz.func13,Tryz.ntmps13
  go_wp2_with (first|((with_reducible refine gate_dst (N:=2) rfl ?_);refine box_event ?hg (N:=2) ?hd (cs:=#[.int .i64 0,.int .i64 0]) (t:=23) ?hr ?_;(case hd=>rfl);(case hg=>rfl);(case hr=>first|(go_simp;done)|(go_simp;rfl));intro gb233 hg w4 hbox hb;have n0_:=aK (below_step (by repeat (first|(with_reducible first|exact HB.out|apply below_alloc|apply pw_below_drewN|apply below_drew1)|exact HB.out)) hb);have n1_:=aK (hbox);have n2_:=aK ((by rw [hg];exact (below_size (by repeat (first|(with_reducible first|exact HB.out|apply below_alloc|apply pw_below_drewN|apply below_drew1)|exact HB.out))):w.heap.size≤gb233));have n3_:=n2_;clear HB;have HB:=n0_;have BK233:=n1_;have GW233:=n2_;have GE233:=n3_;clear n0_ n1_ n2_ n3_;clear hb hbox hg)|((with_reducible refine gate_callee (f:=27) rfl ?_);refine goesL_ (some 13) rfl rfl Tryz.func27 (by kernel_rfl) rfl #[.slice A0 l0.length c0] rfl (by (try simp only [List.map_toArray,List.map_cons,List.map_nil]);first|done|rfl|(simp only [List.length_drop,List.length_take];rfl)) ?_;(with_reducible refine (fleuronref17_Some.calls k _ _ l0 true _ ?side1 ?side2 A2.out).mono ?_);(case side1=>repeat (first|exact (Kd.C_below HR0.out HB.out)|(with_reducible refine Kd.C_alloc ?_ _)|(with_reducible refine Kd.C_drewN ?_ _)|(with_reducible refine Kd.C_drew ?_)));(case side2=>exact HC0.out);rintro e w5 ⟨rfl,hb⟩;refine ⟨_,rfl,?_⟩;have n0_:=aK (blk_below (g:=gb233) (o:=.cells #[.int .i64 0,.int .i64 0] 23 (0,0)) (by (with_reducible repeat (first|refine blk_drewN ?_ _|refine blk_drew ?_|refine blk_alloc ?_ _));exact BK233.out) hb);have n1_:=aK (below_step (by repeat (first|(with_reducible first|exact HB.out|apply below_alloc|apply pw_below_drewN|apply below_drew1|refine below_set ?_ GE233.out)|exact HB.out)) hb);clear BK233;clear HB;have BK233:=n0_;have HB:=n1_;clear n0_ n1_;(try clear hb);(try clear hb2);(try clear hk);(try clear hi))|((with_reducible refine gate_dst (N:=4) rfl ?_);refine box_event ?hg (N:=4) ?hd (cs:=#[.int .i64 0,.int .i64 0]) (t:=23) ?hr ?_;(case hd=>rfl);(case hg=>rfl);(case hr=>first|(go_simp;done)|(go_simp;rfl));intro gb235 hg w6 hbox hb;have n0_:=aK (blk_below (g:=gb233) (o:=.cells #[.int .i64 0,.int .i64 0] 23 (0,0)) (by (with_reducible repeat (first|refine blk_drewN ?_ _|refine blk_drew ?_|refine blk_alloc ?_ _));exact BK233.out) hb);have n1_:=aK (below_step (by repeat (first|(with_reducible first|exact HB.out|apply below_alloc|apply pw_below_drewN|apply below_drew1|refine below_set ?_ GE233.out)|exact HB.out)) hb);have n2_:=aK (hbox);have n3_:=aK ((by rw [hg];exact (below_size (by repeat (first|(with_reducible first|exact HB.out|apply below_alloc|apply pw_below_drewN|apply below_drew1|refine below_set ?_ GE233.out)|exact HB.out))):w.heap.size≤gb235));have n4_:=n3_;have n5_:=aK ((by rw [hg];exact Nat.ne_of_lt (blk_lt (g:=gb233) (o:=.cells #[.int .i64 0,.int .i64 0] 23 (0,0)) (by (with_reducible repeat (first|refine blk_drewN ?_ _|refine blk_drew ?_|refine blk_alloc ?_ _));exact BK233.out)):gb233≠gb235));have n6_:=aK (Ne.symm n5_.out);clear BK233;clear HB;have BK233:=n0_;have HB:=n1_;have BK235:=n2_;have GW235:=n3_;have GE235:=n4_;have NB233_235:=n5_;have NB235_233:=n6_;clear n0_ n1_ n2_ n3_ n4_ n5_ n6_;clear hb hbox hg;have hnb7:=NB235_233.out;have hnc7:=NB233_235.out;have hcz8_0:w6.cell? ⟨gb235,0,none⟩=some (.int .i64 0):=(blk_cell BK235.out 0).trans rfl;have hcz8_1:w6.cell? ⟨gb235,1,none⟩=some (.int .i64 0):=(blk_cell BK235.out 1).trans rfl;have hfz8_0:=blk_frozen BK235.out 0;have hfz8_1:=blk_frozen BK235.out 1))
  go_loopg [17] k (fun kq v17 w'=>∃ (x17_1:Int) (x236000_1:Int) (x236001_1:Int),v17 = .int .i64 x17_1∧Aside0 (fleuronref19_Rows.l0 kq l0 x17_1 x236000_1 x236001_1=some (r1,r2,r3))∧Aside0 (kq≤k)∧Aside0 (w'.heap[gb233]?=some (.cells #[.int .i64 0,.int .i64 0] 23 (0,0)))∧Aside0 (w'.heap[gb235]?=some (.cells #[.int .i64 x236000_1,.int .i64 x236001_1] 23 (0,0)))∧Aside0 (Below w.heap.size w w'))
  case atStart=>exact ⟨(0),((-1)),((-1)),(by first|rfl|(simp;done)|(simp [*];done)),H',⟨Nat.le_refl _⟩,⟨by (with_reducible repeat (first|refine blk_drewN ?_ _|refine blk_drew ?_|refine blk_alloc ?_ _));refine blk_far ?_ NB233_235.out _;(with_reducible repeat (first|refine blk_drewN ?_ _|refine blk_drew ?_|refine blk_alloc ?_ _));refine blk_far ?_ NB233_235.out _;(with_reducible repeat (first|refine blk_drewN ?_ _|refine blk_drew ?_|refine blk_alloc ?_ _));exact BK233.out⟩,⟨by (with_reducible repeat (first|refine blk_drewN ?_ _|refine blk_drew ?_|refine blk_alloc ?_ _));refine blk_put (cs:=#[.int .i64 (-1),.int .i64 0]) ?_ 1 _ rfl;(with_reducible repeat (first|refine blk_drewN ?_ _|refine blk_drew ?_|refine blk_alloc ?_ _));refine blk_put (cs:=#[.int .i64 0,.int .i64 0]) ?_ 0 _ rfl;(with_reducible repeat (first|refine blk_drewN ?_ _|refine blk_drew ?_|refine blk_alloc ?_ _));exact BK235.out⟩,⟨by repeat (first|(with_reducible first|exact HB.out|apply below_alloc|apply pw_below_drewN|apply below_drew1|refine below_set ?_ GE233.out|refine below_set ?_ GE235.out)|exact HB.out)⟩⟩
  case round =>
   clear H'
   try clear c1
   try clear c2
   try clear p2
   try clear c3
   try clear c7
   try clear hcz8_0
   try clear hcz8_1
   try clear hfz8_0
   try clear hfz8_1
   obtain ⟨x17_1,x236000_1,x236001_1,rfl,HA,HK1,BK233,BK235,HB⟩:=hrel
   cases gk with
   | zero=>exact absurd HA.out (by simp [fleuronref19_Rows.l0])
   | succ k1 =>
    have H:=HA.out
    clear HA
    simp only [fleuronref19_Rows.l0] at H
    by_cases c9:x17_1<256
    ·rw [if_pos c9] at H
     have c9b0:decide (x17_1<256)=true:=decide_eq_true c9
     clear c9
     replace H:=Option.bind_eq_some_iff.mp H
     obtain ⟨⟨t236,t237⟩,A100,H⟩:=H
     replace H:(fleuronref19_Rows.l1 k1 l0 x17_1 t237 x17_1 l0 (l0.length:Int) 0 x236000_1 x236001_1)=some (r1,r2,r3):=H
     have A10:=aK A100
     clear A100
     have H':=aK H
     clear H
     go_wp2_with ((with_reducible refine gate_callee (f:=31) rfl ?_);refine goesL_ (some 21) rfl rfl Tryz.func31 (by kernel_rfl) rfl #[.int .i64 0,.int .i64 x17_1] rfl (by (try simp only [List.map_toArray,List.map_cons,List.map_nil]);first|done|rfl|(simp only [List.length_drop,List.length_take];rfl)) ?_;(with_reducible refine (fleuronref19_Sample.calls 0 x17_1 t236 t237 _ A10.out).mono ?_);rintro e w11 ⟨rfl,hb⟩;refine ⟨_,rfl,?_⟩;have n0_:=aK (blk_below (g:=gb233) (o:=.cells #[.int .i64 0,.int .i64 0] 23 (0,0)) (by (with_reducible repeat (first|refine blk_drewN ?_ _|refine blk_drew ?_|refine blk_alloc ?_ _));exact BK233.out) hb);have n1_:=aK (blk_below (g:=gb235) (o:=.cells #[.int .i64 x236000_1,.int .i64 x236001_1] 23 (0,0)) (by (with_reducible repeat (first|refine blk_drewN ?_ _|refine blk_drew ?_|refine blk_alloc ?_ _));exact BK235.out) hb);have n2_:=aK (below_step (by repeat (first|(with_reducible first|exact HB.out|apply below_alloc|apply pw_below_drewN|apply below_drew1|refine below_set ?_ GE233.out|refine below_set ?_ GE235.out)|exact HB.out)) hb);clear BK233;clear BK235;clear HB;have BK233:=n0_;have BK235:=n1_;have HB:=n2_;clear n0_ n1_ n2_;(try clear hb);(try clear hb2);(try clear hk);(try clear hi))
     go_loopg [25] k1 (fun kq v25 w'=>∃ (x25_2:Int) (x236000_2:Int) (x236001_2:Int),v25 = .int .i64 x25_2∧Aside0 (fleuronref19_Rows.l1 kq l0 x17_1 t237 x17_1 l0 (l0.length:Int) x25_2 x236000_2 x236001_2=some (r1,r2,r3))∧Aside0 (kq≤k1)∧Aside0 (w'.heap[gb233]?=some (.cells #[.int .i64 0,.int .i64 0] 23 (0,0)))∧Aside0 (w'.heap[gb235]?=some (.cells #[.int .i64 x236000_2,.int .i64 x236001_2] 23 (0,0)))∧Aside0 (Below w.heap.size w w'))
     case atStart=>exact ⟨(0),(x236000_1),(x236001_1),(by first|rfl|(simp;done)|(simp [*];done)),H',⟨Nat.le_refl _⟩,⟨by (with_reducible repeat (first|refine blk_drewN ?_ _|refine blk_drew ?_|refine blk_alloc ?_ _));exact BK233.out⟩,⟨by (with_reducible repeat (first|refine blk_drewN ?_ _|refine blk_drew ?_|refine blk_alloc ?_ _));exact BK235.out⟩,⟨by repeat (first|(with_reducible first|exact HB.out|apply below_alloc|apply pw_below_drewN|apply below_drew1|refine below_set ?_ GE233.out|refine below_set ?_ GE235.out)|exact HB.out)⟩⟩
     case round =>
      clear H'
      try clear c1
      try clear c2
      try clear p2
      try clear c3
      try clear c7
      try clear c9
      try clear c9b0
      try clear hcz8_0
      try clear hcz8_1
      try clear hfz8_0
      try clear hfz8_1
      try clear p2
      obtain ⟨x25_2,x236000_2,x236001_2,rfl,HA,HK2,BK233,BK235,HB⟩:=hrel
      cases gk with
      | zero=>exact absurd HA.out (by simp [fleuronref19_Rows.l1])
      | succ k2 =>
       have H:=HA.out
       clear HA
       simp only [fleuronref19_Rows.l1] at H
       by_cases c12:x25_2<(l0.length:Int)
       ·rw [if_pos c12] at H
        have c12b0:decide (x25_2<(l0.length:Int))=true:=decide_eq_true c12
        clear c12
        by_cases c13:0≤x25_2
        ·rw [if_pos c13] at H
         have c13b0:decide (0≤x25_2)=true:=decide_eq_true c13
         clear c13
         by_cases c14:x25_2<(l0.length:Int)
         ·rw [if_pos c14] at H
          have c14b0:decide (x25_2<(l0.length:Int))=true:=decide_eq_true c14
          clear c14
          have H':=aK H
          clear H
          have p238:0≤(x25_2:Int):=of_decide_eq_true (by first|(with_reducible assumption)|assumption)
          have q238:x25_2<(l0.length:Int):=of_decide_eq_true (by first|(with_reducible assumption)|assumption)
          obtain ⟨ad238,A238_0,c238_0,e238,hx238_0,hl238_0,hi238_0⟩:=at_L2 HR0.out x25_2 p238 q238
          cases e238
          replace hx238_0:=(HB.out.cell (World.block_lt_of_cell? w _ hx238_0)).trans hx238_0
          have HR238_0:=aK hi238_0
          have HC238_0:=aK hl238_0
          clear hi238_0 hl238_0
          replace p238:=eq_true p238
          replace q238:=eq_true q238
          go_wp2
          go_loopg [31] k2 (fun kq v31 w'=>∃ (x31_3:Int) (x236000_3:Int) (x236001_3:Int),v31 = .int .i64 x31_3∧Aside0 (fleuronref19_Rows.l2 kq l0 x17_1 t237 (rd_L2 l0 x25_2) x17_1 l0 (l0.length:Int) x25_2 (rd_L2 l0 x25_2) ((rd_L2 l0 x25_2).length:Int) x31_3 x236000_3 x236001_3=some (r1,r2,r3))∧Aside0 (kq≤k2)∧Aside0 (w'.heap[gb233]?=some (.cells #[.int .i64 0,.int .i64 0] 23 (0,0)))∧Aside0 (w'.heap[gb235]?=some (.cells #[.int .i64 x236000_3,.int .i64 x236001_3] 23 (0,0)))∧Aside0 (Below w.heap.size w w'))
          case atStart=>exact ⟨(0),(x236000_2),(x236001_2),(by first|rfl|(simp;done)|(simp [*];done)),H',⟨Nat.le_refl _⟩,⟨by (with_reducible repeat (first|refine blk_drewN ?_ _|refine blk_drew ?_|refine blk_alloc ?_ _));exact BK233.out⟩,⟨by (with_reducible repeat (first|refine blk_drewN ?_ _|refine blk_drew ?_|refine blk_alloc ?_ _));exact BK235.out⟩,⟨by repeat (first|(with_reducible first|exact HB.out|apply below_alloc|apply pw_below_drewN|apply below_drew1|refine below_set ?_ GE233.out|refine below_set ?_ GE235.out)|exact HB.out)⟩⟩
          case round =>
           clear H'
           try clear c1
           try clear c2
           try clear p2
           try clear q2
           try clear hx2
           try clear c3
           try clear c7
           try clear c9
           try clear c9b0
           try clear c12
           try clear c12b0
           try clear c13
           try clear c13b0
           try clear c14
           try clear c14b0
           try clear hcz8_0
           try clear hcz8_1
           try clear hfz8_0
           try clear hfz8_1
           try clear hx238_0
           try clear p2
           try clear p238
           try clear q238
           obtain ⟨x31_3,x236000_3,x236001_3,rfl,HA,HK3,BK233,BK235,HB⟩:=hrel
           cases gk with
           | zero=>exact absurd HA.out (by simp [fleuronref19_Rows.l2])
           | succ k3 =>
            have H:=HA.out
            clear HA
            simp only [fleuronref19_Rows.l2] at H
            by_cases c15:x31_3<((rd_L2 l0 x25_2).length:Int)
            ·rw [if_pos c15] at H
             have c15b0:decide (x31_3<((rd_L2 l0 x25_2).length:Int))=true:=decide_eq_true c15
             clear c15
             by_cases c16:0≤x31_3
             ·rw [if_pos c16] at H
              have c16b0:decide (0≤x31_3)=true:=decide_eq_true c16
              clear c16
              by_cases c17:x31_3<((rd_L2 l0 x25_2).length:Int)
              ·rw [if_pos c17] at H
               have c17b0:decide (x31_3<((rd_L2 l0 x25_2).length:Int))=true:=decide_eq_true c17
               clear c17
               by_cases c18:((rd_L2 l0 x25_2).length:Int)=0
               ·rw [if_pos c18] at H
                exact absurd H (by simp)
               ·rw [if_neg c18] at H
                have c18b0:(((rd_L2 l0 x25_2).length:Int) == 0)=false:=beq_eq_false_iff_ne.mpr c18
                have c18b1:(((rd_L2 l0 x25_2).length:Int) != 0)=true:=bne_iff_ne.mpr c18
                have c18b2 : ¬ ((rd_L2 l0 x25_2)=[]):=fun h_=>c18 (by rw [h_];rfl)
                obtain ⟨ji19,hji19⟩ : ∃ j_:Int,(Int.tmod (wrap64 (x31_3+1)) ((rd_L2 l0 x25_2).length:Int))=j_:=⟨_,rfl⟩
                replace H:(if 0≤(ji19) then (if (ji19)<((rd_L2 l0 x25_2).length:Int) then (if ((rd_T47 (rd_L2 l0 x25_2) x31_3).f1)≤t237 then (if t237<((rd_T47 (rd_L2 l0 x25_2) (ji19)).f1) then (fleuronref19_Rows.j3 k3 l0 x17_1 t237 (rd_L2 l0 x25_2) x17_1 l0 (l0.length:Int) x25_2 (rd_L2 l0 x25_2) ((rd_L2 l0 x25_2).length:Int) x31_3 true x236000_3 x236001_3) else (if ((rd_T47 (rd_L2 l0 x25_2) (ji19)).f1)≤t237 then (fleuronref19_Rows.j3 k3 l0 x17_1 t237 (rd_L2 l0 x25_2) x17_1 l0 (l0.length:Int) x25_2 (rd_L2 l0 x25_2) ((rd_L2 l0 x25_2).length:Int) x31_3 (decide (t237<((rd_T47 (rd_L2 l0 x25_2) x31_3).f1))) x236000_3 x236001_3) else (fleuronref19_Rows.j3 k3 l0 x17_1 t237 (rd_L2 l0 x25_2) x17_1 l0 (l0.length:Int) x25_2 (rd_L2 l0 x25_2) ((rd_L2 l0 x25_2).length:Int) x31_3 false x236000_3 x236001_3))) else (if ((rd_T47 (rd_L2 l0 x25_2) (ji19)).f1)≤t237 then (fleuronref19_Rows.j3 k3 l0 x17_1 t237 (rd_L2 l0 x25_2) x17_1 l0 (l0.length:Int) x25_2 (rd_L2 l0 x25_2) ((rd_L2 l0 x25_2).length:Int) x31_3 (decide (t237<((rd_T47 (rd_L2 l0 x25_2) x31_3).f1))) x236000_3 x236001_3) else (fleuronref19_Rows.j3 k3 l0 x17_1 t237 (rd_L2 l0 x25_2) x17_1 l0 (l0.length:Int) x25_2 (rd_L2 l0 x25_2) ((rd_L2 l0 x25_2).length:Int) x31_3 false x236000_3 x236001_3))) else (none)) else (none))=some (r1,r2,r3):=by first|(rw [hji19] at H;exact H)|(simp only [hji19] at H ⊢;exact H)
                by_cases c20:0≤(ji19)
                ·rw [if_pos c20] at H
                 have c20b0:decide (0≤(ji19))=true:=decide_eq_true c20
                 clear c20
                 by_cases c21:(ji19)<((rd_L2 l0 x25_2).length:Int)
                 ·rw [if_pos c21] at H
                  have c21b0:decide ((ji19)<((rd_L2 l0 x25_2).length:Int))=true:=decide_eq_true c21
                  clear c21
                  have HC22:=aK H
                  clear H
                  have p239:0≤(x31_3:Int):=of_decide_eq_true (by first|(with_reducible assumption)|assumption)
                  have q239:x31_3<((rd_L2 l0 x25_2).length:Int):=of_decide_eq_true (by first|(with_reducible assumption)|assumption)
                  obtain ⟨ad239,e239,hx239_0,hx239_1⟩:=at_T47 HR238_0.out x31_3 p239 q239
                  cases e239
                  replace hx239_0:=(HB.out.cell (World.block_lt_of_cell? w _ hx239_0)).trans hx239_0
                  replace hx239_1:=(HB.out.cell (World.block_lt_of_cell? w _ hx239_1)).trans hx239_1
                  replace p239:=eq_true p239
                  replace q239:=eq_true q239
                  go_upto_region 15 with (first|((with_reducible refine gate_dst (N:=10) rfl ?_);refine box_event ?hg (N:=10) ?hd (cs:=#[.int .i64 0,.int .i64 0]) (t:=47) ?hr ?_;(case hd=>rfl);(case hg=>rfl);(case hr=>first|(go_simp;done)|(go_simp;rfl));intro gb240 hg w23 hbox hb;have n0_:=aK (blk_below (g:=gb233) (o:=.cells #[.int .i64 0,.int .i64 0] 23 (0,0)) (by (with_reducible repeat (first|refine blk_drewN ?_ _|refine blk_drew ?_|refine blk_alloc ?_ _));exact BK233.out) hb);have n1_:=aK (blk_below (g:=gb235) (o:=.cells #[.int .i64 x236000_3,.int .i64 x236001_3] 23 (0,0)) (by (with_reducible repeat (first|refine blk_drewN ?_ _|refine blk_drew ?_|refine blk_alloc ?_ _));exact BK235.out) hb);have n2_:=aK (below_step (by repeat (first|(with_reducible first|exact HB.out|apply below_alloc|apply pw_below_drewN|apply below_drew1|refine below_set ?_ GE233.out|refine below_set ?_ GE235.out)|exact HB.out)) hb);have n3_:=aK (hbox);have n4_:=aK ((by rw [hg];exact (below_size (by repeat (first|(with_reducible first|exact HB.out|apply below_alloc|apply pw_below_drewN|apply below_drew1|refine below_set ?_ GE233.out|refine below_set ?_ GE235.out)|exact HB.out))):w.heap.size≤gb240));have n5_:=n4_;have n6_:=aK ((by rw [hg];exact Nat.ne_of_lt (blk_lt (g:=gb233) (o:=.cells #[.int .i64 0,.int .i64 0] 23 (0,0)) (by (with_reducible repeat (first|refine blk_drewN ?_ _|refine blk_drew ?_|refine blk_alloc ?_ _));exact BK233.out)):gb233≠gb240));have n7_:=aK (Ne.symm n6_.out);have n8_:=aK ((by rw [hg];exact Nat.ne_of_lt (blk_lt (g:=gb235) (o:=.cells #[.int .i64 x236000_3,.int .i64 x236001_3] 23 (0,0)) (by (with_reducible repeat (first|refine blk_drewN ?_ _|refine blk_drew ?_|refine blk_alloc ?_ _));exact BK235.out)):gb235≠gb240));have n9_:=aK (Ne.symm n8_.out);clear BK233;clear BK235;clear HB;have BK233:=n0_;have BK235:=n1_;have HB:=n2_;have BK240:=n3_;have GW240:=n4_;have GE240:=n5_;have NB233_240:=n6_;have NB240_233:=n7_;have NB235_240:=n8_;have NB240_235:=n9_;clear n0_ n1_ n2_ n3_ n4_ n5_ n6_ n7_ n8_ n9_;clear hb hbox hg;have hnb24:=NB240_233.out;have hnc24:=NB233_240.out;have hnb25:=NB240_235.out;have hnc25:=NB235_240.out;have hcz26_0:w23.cell? ⟨gb240,0,none⟩=some (.int .i64 0):=(blk_cell BK240.out 0).trans rfl;have hcz26_1:w23.cell? ⟨gb240,1,none⟩=some (.int .i64 0):=(blk_cell BK240.out 1).trans rfl;have hfz26_0:=blk_frozen BK240.out 0;have hfz26_1:=blk_frozen BK240.out 1;have p241:0≤((ji19):Int):=of_decide_eq_true (by first|(with_reducible assumption)|assumption);have q241:(ji19)<((rd_L2 l0 x25_2).length:Int):=of_decide_eq_true (by first|(with_reducible assumption)|assumption);obtain ⟨ad241,e241,hx241_0,hx241_1⟩:=at_T47 HR238_0.out (ji19) p241 q241;obtain rfl:ad239=ad241:=(by injection e241);have hn241_0:ad239.block≠gb240:=Nat.ne_of_lt (Nat.lt_of_lt_of_le (by have:=World.block_lt_of_cell? _ _ hx241_0;first|rwa [add_block] at this|exact this) GW240.out);have hn241_1:ad239.block≠gb240:=Nat.ne_of_lt (Nat.lt_of_lt_of_le (by have:=World.block_lt_of_cell? _ _ hx241_0;first|rwa [add_block] at this|exact this) GW240.out);replace hx241_0:=(HB.out.cell (World.block_lt_of_cell? w _ hx241_0)).trans hx241_0;replace hx241_1:=(HB.out.cell (World.block_lt_of_cell? w _ hx241_1)).trans hx241_1;replace hx241_0:=(cell_far (p:=⟨gb240,0,none⟩) (by first|(rw [add_block];exact hn241_0)|(show (Addr.add _ _).block≠_;rw [add_block];exact hn241_0)|exact hn241_0) (.int .i64 ((rd_T47 (rd_L2 l0 x25_2) x31_3).f0))).trans hx241_0;replace hx241_1:=(cell_far (p:=⟨gb240,0,none⟩) (by first|(rw [add_block];exact hn241_0)|(show (Addr.add _ _).block≠_;rw [add_block];exact hn241_0)|exact hn241_0) (.int .i64 ((rd_T47 (rd_L2 l0 x25_2) x31_3).f0))).trans hx241_1;replace hx241_0:=(cell_far (p:=⟨gb240,1,none⟩) (by first|(rw [add_block];exact hn241_1)|(show (Addr.add _ _).block≠_;rw [add_block];exact hn241_1)|exact hn241_1) (.int .i64 ((rd_T47 (rd_L2 l0 x25_2) x31_3).f1))).trans hx241_0;replace hx241_1:=(cell_far (p:=⟨gb240,1,none⟩) (by first|(rw [add_block];exact hn241_1)|(show (Addr.add _ _).block≠_;rw [add_block];exact hn241_1)|exact hn241_1) (.int .i64 ((rd_T47 (rd_L2 l0 x25_2) x31_3).f1))).trans hx241_1;clear hn241_0;clear hn241_1;replace p241:=eq_true p241;replace q241:=eq_true q241)|((with_reducible refine gate_dst (N:=11) rfl ?_);refine box_event ?hg (N:=11) ?hd (cs:=#[.int .i64 0,.int .i64 0]) (t:=47) ?hr ?_;(case hd=>rfl);(case hg=>rfl);(case hr=>first|(go_simp;done)|(go_simp;rfl));intro gb242 hg w27 hbox hb;have n0_:=aK (blk_below (g:=gb233) (o:=.cells #[.int .i64 0,.int .i64 0] 23 (0,0)) (by (with_reducible repeat (first|refine blk_drewN ?_ _|refine blk_drew ?_|refine blk_alloc ?_ _));refine blk_far ?_ NB233_240.out _;(with_reducible repeat (first|refine blk_drewN ?_ _|refine blk_drew ?_|refine blk_alloc ?_ _));refine blk_far ?_ NB233_240.out _;(with_reducible repeat (first|refine blk_drewN ?_ _|refine blk_drew ?_|refine blk_alloc ?_ _));exact BK233.out) hb);have n1_:=aK (blk_below (g:=gb235) (o:=.cells #[.int .i64 x236000_3,.int .i64 x236001_3] 23 (0,0)) (by (with_reducible repeat (first|refine blk_drewN ?_ _|refine blk_drew ?_|refine blk_alloc ?_ _));refine blk_far ?_ NB235_240.out _;(with_reducible repeat (first|refine blk_drewN ?_ _|refine blk_drew ?_|refine blk_alloc ?_ _));refine blk_far ?_ NB235_240.out _;(with_reducible repeat (first|refine blk_drewN ?_ _|refine blk_drew ?_|refine blk_alloc ?_ _));exact BK235.out) hb);have n2_:=aK (blk_below (g:=gb240) (o:=.cells #[.int .i64 ((rd_T47 (rd_L2 l0 x25_2) x31_3).f0),.int .i64 ((rd_T47 (rd_L2 l0 x25_2) x31_3).f1)] 47 (0,0)) (by (with_reducible repeat (first|refine blk_drewN ?_ _|refine blk_drew ?_|refine blk_alloc ?_ _));refine blk_put (cs:=#[.int .i64 ((rd_T47 (rd_L2 l0 x25_2) x31_3).f0),.int .i64 0]) ?_ 1 _ rfl;(with_reducible repeat (first|refine blk_drewN ?_ _|refine blk_drew ?_|refine blk_alloc ?_ _));refine blk_put (cs:=#[.int .i64 0,.int .i64 0]) ?_ 0 _ rfl;(with_reducible repeat (first|refine blk_drewN ?_ _|refine blk_drew ?_|refine blk_alloc ?_ _));exact BK240.out) hb);have n3_:=aK (below_step (by repeat (first|(with_reducible first|exact HB.out|apply below_alloc|apply pw_below_drewN|apply below_drew1|refine below_set ?_ GE233.out|refine below_set ?_ GE235.out|refine below_set ?_ GE240.out)|exact HB.out)) hb);have n4_:=aK (hbox);have n5_:=aK ((by rw [hg];exact (below_size (by repeat (first|(with_reducible first|exact HB.out|apply below_alloc|apply pw_below_drewN|apply below_drew1|refine below_set ?_ GE233.out|refine below_set ?_ GE235.out|refine below_set ?_ GE240.out)|exact HB.out))):w.heap.size≤gb242));have n6_:=n5_;have n7_:=aK ((by rw [hg];exact Nat.ne_of_lt (blk_lt (g:=gb233) (o:=.cells #[.int .i64 0,.int .i64 0] 23 (0,0)) (by (with_reducible repeat (first|refine blk_drewN ?_ _|refine blk_drew ?_|refine blk_alloc ?_ _));refine blk_far ?_ NB233_240.out _;(with_reducible repeat (first|refine blk_drewN ?_ _|refine blk_drew ?_|refine blk_alloc ?_ _));refine blk_far ?_ NB233_240.out _;(with_reducible repeat (first|refine blk_drewN ?_ _|refine blk_drew ?_|refine blk_alloc ?_ _));exact BK233.out)):gb233≠gb242));have n8_:=aK (Ne.symm n7_.out);have n9_:=aK ((by rw [hg];exact Nat.ne_of_lt (blk_lt (g:=gb235) (o:=.cells #[.int .i64 x236000_3,.int .i64 x236001_3] 23 (0,0)) (by (with_reducible repeat (first|refine blk_drewN ?_ _|refine blk_drew ?_|refine blk_alloc ?_ _));refine blk_far ?_ NB235_240.out _;(with_reducible repeat (first|refine blk_drewN ?_ _|refine blk_drew ?_|refine blk_alloc ?_ _));refine blk_far ?_ NB235_240.out _;(with_reducible repeat (first|refine blk_drewN ?_ _|refine blk_drew ?_|refine blk_alloc ?_ _));exact BK235.out)):gb235≠gb242));have n10_:=aK (Ne.symm n9_.out);have n11_:=aK ((by rw [hg];exact Nat.ne_of_lt (blk_lt (g:=gb240) (o:=.cells #[.int .i64 ((rd_T47 (rd_L2 l0 x25_2) x31_3).f0),.int .i64 ((rd_T47 (rd_L2 l0 x25_2) x31_3).f1)] 47 (0,0)) (by (with_reducible repeat (first|refine blk_drewN ?_ _|refine blk_drew ?_|refine blk_alloc ?_ _));refine blk_put (cs:=#[.int .i64 ((rd_T47 (rd_L2 l0 x25_2) x31_3).f0),.int .i64 0]) ?_ 1 _ rfl;(with_reducible repeat (first|refine blk_drewN ?_ _|refine blk_drew ?_|refine blk_alloc ?_ _));refine blk_put (cs:=#[.int .i64 0,.int .i64 0]) ?_ 0 _ rfl;(with_reducible repeat (first|refine blk_drewN ?_ _|refine blk_drew ?_|refine blk_alloc ?_ _));exact BK240.out)):gb240≠gb242));have n12_:=aK (Ne.symm n11_.out);clear BK233;clear BK235;clear BK240;clear HB;have BK233:=n0_;have BK235:=n1_;have BK240:=n2_;have HB:=n3_;have BK242:=n4_;have GW242:=n5_;have GE242:=n6_;have NB233_242:=n7_;have NB242_233:=n8_;have NB235_242:=n9_;have NB242_235:=n10_;have NB240_242:=n11_;have NB242_240:=n12_;clear n0_ n1_ n2_ n3_ n4_ n5_ n6_ n7_ n8_ n9_ n10_ n11_ n12_;clear hb hbox hg;have hnb28:=NB242_233.out;have hnc28:=NB233_242.out;have hnb29:=NB242_235.out;have hnc29:=NB235_242.out;have hnb30:=NB242_240.out;have hnc30:=NB240_242.out;have hcz31_0:w27.cell? ⟨gb242,0,none⟩=some (.int .i64 0):=(blk_cell BK242.out 0).trans rfl;have hcz31_1:w27.cell? ⟨gb242,1,none⟩=some (.int .i64 0):=(blk_cell BK242.out 1).trans rfl;have hfz31_0:=blk_frozen BK242.out 0;have hfz31_1:=blk_frozen BK242.out 1))
                  (try simp only [Act.put,lS])
                  go_cut [65] (fun v65 wc=>∃ (kq:Nat) (x65_21:Bool),v65 = .bool x65_21∧Aside0 (fleuronref19_Rows.j3 kq l0 x17_1 t237 (rd_L2 l0 x25_2) x17_1 l0 (l0.length:Int) x25_2 (rd_L2 l0 x25_2) ((rd_L2 l0 x25_2).length:Int) x31_3 x65_21 x236000_3 x236001_3=some (r1,r2,r3))∧Aside0 (kq≤k3)∧Aside0 (wc.heap[gb233]?=some (.cells #[.int .i64 0,.int .i64 0] 23 (0,0)))∧Aside0 (wc.heap[gb235]?=some (.cells #[.int .i64 x236000_3,.int .i64 x236001_3] 23 (0,0)))∧Aside0 (wc.heap[gb240]?=some (.cells #[.int .i64 ((rd_T47 (rd_L2 l0 x25_2) x31_3).f0),.int .i64 ((rd_T47 (rd_L2 l0 x25_2) x31_3).f1)] 47 (0,0)))∧Aside0 (wc.heap[gb242]?=some (.cells #[.int .i64 ((rd_T47 (rd_L2 l0 x25_2) (ji19)).f0),.int .i64 ((rd_T47 (rd_L2 l0 x25_2) (ji19)).f1)] 47 (0,0)))∧Aside0 (Below w.heap.size w wc))
                  case first =>
                   have H:=HC22.out
                   clear HC22
                   by_cases c32:((rd_T47 (rd_L2 l0 x25_2) x31_3).f1)≤t237
                   ·rw [if_pos c32] at H
                    have c32b0:decide (((rd_T47 (rd_L2 l0 x25_2) x31_3).f1)≤t237)=true:=decide_eq_true c32
                    clear c32
                    (first|rw [c32b0]|(simp only [i64_w,i32_w];rw [c32b0])|skip)
                    by_cases c33:t237<((rd_T47 (rd_L2 l0 x25_2) (ji19)).f1)
                    ·rw [if_pos c33] at H
                     have c33b0:decide (t237<((rd_T47 (rd_L2 l0 x25_2) (ji19)).f1))=true:=decide_eq_true c33
                     clear c33
                     have H':=aK H
                     clear H
                     have hnb34:=NB240_233.out
                     have hnc34:=NB233_240.out
                     have hnb35:=NB240_235.out
                     have hnc35:=NB235_240.out
                     have hnb36:=NB240_242.out
                     have hnc36:=NB242_240.out
                     have hcz37_0:w27.cell? ⟨gb240,0,none⟩=some (.int .i64 ((rd_T47 (rd_L2 l0 x25_2) x31_3).f0)):=(blk_cell BK240.out 0).trans rfl
                     have hcz37_1:w27.cell? ⟨gb240,1,none⟩=some (.int .i64 ((rd_T47 (rd_L2 l0 x25_2) x31_3).f1)):=(blk_cell BK240.out 1).trans rfl
                     have hfz37_0:=blk_frozen BK240.out 0
                     have hfz37_1:=blk_frozen BK240.out 1
                     have hnb38:=NB242_233.out
                     have hnc38:=NB233_242.out
                     have hnb39:=NB242_235.out
                     have hnc39:=NB235_242.out
                     have hcz40_0:w27.cell? ⟨gb242,0,none⟩=some (.int .i64 0):=(blk_cell BK242.out 0).trans rfl
                     have hcz40_1:w27.cell? ⟨gb242,1,none⟩=some (.int .i64 0):=(blk_cell BK242.out 1).trans rfl
                     have hfz40_0:=blk_frozen BK242.out 0
                     have hfz40_1:=blk_frozen BK242.out 1
                     go_wp2
                     go_meet
                     case rel=>exact ⟨_,(true),(by first|rfl|(simp;done)|(simp [*];done)),H',⟨by have:=HK1.out;have:=HK2.out;have:=HK3.out;first|omega|exact Nat.le_refl _⟩,⟨by (with_reducible repeat (first|refine blk_drewN ?_ _|refine blk_drew ?_|refine blk_alloc ?_ _));refine blk_far ?_ NB233_242.out _;(with_reducible repeat (first|refine blk_drewN ?_ _|refine blk_drew ?_|refine blk_alloc ?_ _));refine blk_far ?_ NB233_242.out _;(with_reducible repeat (first|refine blk_drewN ?_ _|refine blk_drew ?_|refine blk_alloc ?_ _));exact BK233.out⟩,⟨by (with_reducible repeat (first|refine blk_drewN ?_ _|refine blk_drew ?_|refine blk_alloc ?_ _));refine blk_far ?_ NB235_242.out _;(with_reducible repeat (first|refine blk_drewN ?_ _|refine blk_drew ?_|refine blk_alloc ?_ _));refine blk_far ?_ NB235_242.out _;(with_reducible repeat (first|refine blk_drewN ?_ _|refine blk_drew ?_|refine blk_alloc ?_ _));exact BK235.out⟩,⟨by (with_reducible repeat (first|refine blk_drewN ?_ _|refine blk_drew ?_|refine blk_alloc ?_ _));refine blk_far ?_ NB240_242.out _;(with_reducible repeat (first|refine blk_drewN ?_ _|refine blk_drew ?_|refine blk_alloc ?_ _));refine blk_far ?_ NB240_242.out _;(with_reducible repeat (first|refine blk_drewN ?_ _|refine blk_drew ?_|refine blk_alloc ?_ _));exact BK240.out⟩,⟨by (with_reducible repeat (first|refine blk_drewN ?_ _|refine blk_drew ?_|refine blk_alloc ?_ _));refine blk_put (cs:=#[.int .i64 ((rd_T47 (rd_L2 l0 x25_2) (ji19)).f0),.int .i64 0]) ?_ 1 _ rfl;(with_reducible repeat (first|refine blk_drewN ?_ _|refine blk_drew ?_|refine blk_alloc ?_ _));refine blk_put (cs:=#[.int .i64 0,.int .i64 0]) ?_ 0 _ rfl;(with_reducible repeat (first|refine blk_drewN ?_ _|refine blk_drew ?_|refine blk_alloc ?_ _));exact BK242.out⟩,⟨by repeat (first|(with_reducible first|exact HB.out|apply below_alloc|apply pw_below_drewN|apply below_drew1|refine below_set ?_ GE233.out|refine below_set ?_ GE235.out|refine below_set ?_ GE240.out|refine below_set ?_ GE242.out)|exact HB.out)⟩⟩
                    ·rw [if_neg c33] at H
                     have c33b0:decide (t237<((rd_T47 (rd_L2 l0 x25_2) (ji19)).f1))=false:=decide_eq_false c33
                     clear c33
                     by_cases c41:((rd_T47 (rd_L2 l0 x25_2) (ji19)).f1)≤t237
                     ·rw [if_pos c41] at H
                      have c41b0:decide (((rd_T47 (rd_L2 l0 x25_2) (ji19)).f1)≤t237)=true:=decide_eq_true c41
                      clear c41
                      have H':=aK H
                      clear H
                      have hnb42:=NB240_233.out
                      have hnc42:=NB233_240.out
                      have hnb43:=NB240_235.out
                      have hnc43:=NB235_240.out
                      have hnb44:=NB240_242.out
                      have hnc44:=NB242_240.out
                      have hcz45_0:w27.cell? ⟨gb240,0,none⟩=some (.int .i64 ((rd_T47 (rd_L2 l0 x25_2) x31_3).f0)):=(blk_cell BK240.out 0).trans rfl
                      have hcz45_1:w27.cell? ⟨gb240,1,none⟩=some (.int .i64 ((rd_T47 (rd_L2 l0 x25_2) x31_3).f1)):=(blk_cell BK240.out 1).trans rfl
                      have hfz45_0:=blk_frozen BK240.out 0
                      have hfz45_1:=blk_frozen BK240.out 1
                      have hnb46:=NB242_233.out
                      have hnc46:=NB233_242.out
                      have hnb47:=NB242_235.out
                      have hnc47:=NB235_242.out
                      have hcz48_0:w27.cell? ⟨gb242,0,none⟩=some (.int .i64 0):=(blk_cell BK242.out 0).trans rfl
                      have hcz48_1:w27.cell? ⟨gb242,1,none⟩=some (.int .i64 0):=(blk_cell BK242.out 1).trans rfl
                      have hfz48_0:=blk_frozen BK242.out 0
                      have hfz48_1:=blk_frozen BK242.out 1
                      go_wp2
                      go_meet
                      case rel=>exact ⟨_,(decide (t237<((rd_T47 (rd_L2 l0 x25_2) x31_3).f1))),(by first|rfl|(simp;done)|(simp [*];done)),H',⟨by have:=HK1.out;have:=HK2.out;have:=HK3.out;first|omega|exact Nat.le_refl _⟩,⟨by (with_reducible repeat (first|refine blk_drewN ?_ _|refine blk_drew ?_|refine blk_alloc ?_ _));refine blk_far ?_ NB233_242.out _;(with_reducible repeat (first|refine blk_drewN ?_ _|refine blk_drew ?_|refine blk_alloc ?_ _));refine blk_far ?_ NB233_242.out _;(with_reducible repeat (first|refine blk_drewN ?_ _|refine blk_drew ?_|refine blk_alloc ?_ _));exact BK233.out⟩,⟨by (with_reducible repeat (first|refine blk_drewN ?_ _|refine blk_drew ?_|refine blk_alloc ?_ _));refine blk_far ?_ NB235_242.out _;(with_reducible repeat (first|refine blk_drewN ?_ _|refine blk_drew ?_|refine blk_alloc ?_ _));refine blk_far ?_ NB235_242.out _;(with_reducible repeat (first|refine blk_drewN ?_ _|refine blk_drew ?_|refine blk_alloc ?_ _));exact BK235.out⟩,⟨by (with_reducible repeat (first|refine blk_drewN ?_ _|refine blk_drew ?_|refine blk_alloc ?_ _));refine blk_far ?_ NB240_242.out _;(with_reducible repeat (first|refine blk_drewN ?_ _|refine blk_drew ?_|refine blk_alloc ?_ _));refine blk_far ?_ NB240_242.out _;(with_reducible repeat (first|refine blk_drewN ?_ _|refine blk_drew ?_|refine blk_alloc ?_ _));exact BK240.out⟩,⟨by (with_reducible repeat (first|refine blk_drewN ?_ _|refine blk_drew ?_|refine blk_alloc ?_ _));refine blk_put (cs:=#[.int .i64 ((rd_T47 (rd_L2 l0 x25_2) (ji19)).f0),.int .i64 0]) ?_ 1 _ rfl;(with_reducible repeat (first|refine blk_drewN ?_ _|refine blk_drew ?_|refine blk_alloc ?_ _));refine blk_put (cs:=#[.int .i64 0,.int .i64 0]) ?_ 0 _ rfl;(with_reducible repeat (first|refine blk_drewN ?_ _|refine blk_drew ?_|refine blk_alloc ?_ _));exact BK242.out⟩,⟨by repeat (first|(with_reducible first|exact HB.out|apply below_alloc|apply pw_below_drewN|apply below_drew1|refine below_set ?_ GE233.out|refine below_set ?_ GE235.out|refine below_set ?_ GE240.out|refine below_set ?_ GE242.out)|exact HB.out)⟩⟩
                     ·rw [if_neg c41] at H
                      have c41b0:decide (((rd_T47 (rd_L2 l0 x25_2) (ji19)).f1)≤t237)=false:=decide_eq_false c41
                      clear c41
                      have H':=aK H
                      clear H
                      have hnb49:=NB240_233.out
                      have hnc49:=NB233_240.out
                      have hnb50:=NB240_235.out
                      have hnc50:=NB235_240.out
                      have hnb51:=NB240_242.out
                      have hnc51:=NB242_240.out
                      have hcz52_0:w27.cell? ⟨gb240,0,none⟩=some (.int .i64 ((rd_T47 (rd_L2 l0 x25_2) x31_3).f0)):=(blk_cell BK240.out 0).trans rfl
                      have hcz52_1:w27.cell? ⟨gb240,1,none⟩=some (.int .i64 ((rd_T47 (rd_L2 l0 x25_2) x31_3).f1)):=(blk_cell BK240.out 1).trans rfl
                      have hfz52_0:=blk_frozen BK240.out 0
                      have hfz52_1:=blk_frozen BK240.out 1
                      have hnb53:=NB242_233.out
                      have hnc53:=NB233_242.out
                      have hnb54:=NB242_235.out
                      have hnc54:=NB235_242.out
                      have hcz55_0:w27.cell? ⟨gb242,0,none⟩=some (.int .i64 0):=(blk_cell BK242.out 0).trans rfl
                      have hcz55_1:w27.cell? ⟨gb242,1,none⟩=some (.int .i64 0):=(blk_cell BK242.out 1).trans rfl
                      have hfz55_0:=blk_frozen BK242.out 0
                      have hfz55_1:=blk_frozen BK242.out 1
                      go_wp2
                      go_meet
                      case rel=>exact ⟨_,(false),(by first|rfl|(simp;done)|(simp [*];done)),H',⟨by have:=HK1.out;have:=HK2.out;have:=HK3.out;first|omega|exact Nat.le_refl _⟩,⟨by (with_reducible repeat (first|refine blk_drewN ?_ _|refine blk_drew ?_|refine blk_alloc ?_ _));refine blk_far ?_ NB233_242.out _;(with_reducible repeat (first|refine blk_drewN ?_ _|refine blk_drew ?_|refine blk_alloc ?_ _));refine blk_far ?_ NB233_242.out _;(with_reducible repeat (first|refine blk_drewN ?_ _|refine blk_drew ?_|refine blk_alloc ?_ _));exact BK233.out⟩,⟨by (with_reducible repeat (first|refine blk_drewN ?_ _|refine blk_drew ?_|refine blk_alloc ?_ _));refine blk_far ?_ NB235_242.out _;(with_reducible repeat (first|refine blk_drewN ?_ _|refine blk_drew ?_|refine blk_alloc ?_ _));refine blk_far ?_ NB235_242.out _;(with_reducible repeat (first|refine blk_drewN ?_ _|refine blk_drew ?_|refine blk_alloc ?_ _));exact BK235.out⟩,⟨by (with_reducible repeat (first|refine blk_drewN ?_ _|refine blk_drew ?_|refine blk_alloc ?_ _));refine blk_far ?_ NB240_242.out _;(with_reducible repeat (first|refine blk_drewN ?_ _|refine blk_drew ?_|refine blk_alloc ?_ _));refine blk_far ?_ NB240_242.out _;(with_reducible repeat (first|refine blk_drewN ?_ _|refine blk_drew ?_|refine blk_alloc ?_ _));exact BK240.out⟩,⟨by (with_reducible repeat (first|refine blk_drewN ?_ _|refine blk_drew ?_|refine blk_alloc ?_ _));refine blk_put (cs:=#[.int .i64 ((rd_T47 (rd_L2 l0 x25_2) (ji19)).f0),.int .i64 0]) ?_ 1 _ rfl;(with_reducible repeat (first|refine blk_drewN ?_ _|refine blk_drew ?_|refine blk_alloc ?_ _));refine blk_put (cs:=#[.int .i64 0,.int .i64 0]) ?_ 0 _ rfl;(with_reducible repeat (first|refine blk_drewN ?_ _|refine blk_drew ?_|refine blk_alloc ?_ _));exact BK242.out⟩,⟨by repeat (first|(with_reducible first|exact HB.out|apply below_alloc|apply pw_below_drewN|apply below_drew1|refine below_set ?_ GE233.out|refine below_set ?_ GE235.out|refine below_set ?_ GE240.out|refine below_set ?_ GE242.out)|exact HB.out)⟩⟩
                   ·rw [if_neg c32] at H
                    have c32b0:decide (((rd_T47 (rd_L2 l0 x25_2) x31_3).f1)≤t237)=false:=decide_eq_false c32
                    clear c32
                    (first|rw [c32b0]|(simp only [i64_w,i32_w];rw [c32b0])|skip)
                    by_cases c56:((rd_T47 (rd_L2 l0 x25_2) (ji19)).f1)≤t237
                    ·rw [if_pos c56] at H
                     have c56b0:decide (((rd_T47 (rd_L2 l0 x25_2) (ji19)).f1)≤t237)=true:=decide_eq_true c56
                     clear c56
                     have H':=aK H
                     clear H
                     have hnb57:=NB240_233.out
                     have hnc57:=NB233_240.out
                     have hnb58:=NB240_235.out
                     have hnc58:=NB235_240.out
                     have hnb59:=NB240_242.out
                     have hnc59:=NB242_240.out
                     have hcz60_0:w27.cell? ⟨gb240,0,none⟩=some (.int .i64 ((rd_T47 (rd_L2 l0 x25_2) x31_3).f0)):=(blk_cell BK240.out 0).trans rfl
                     have hcz60_1:w27.cell? ⟨gb240,1,none⟩=some (.int .i64 ((rd_T47 (rd_L2 l0 x25_2) x31_3).f1)):=(blk_cell BK240.out 1).trans rfl
                     have hfz60_0:=blk_frozen BK240.out 0
                     have hfz60_1:=blk_frozen BK240.out 1
                     have hnb61:=NB242_233.out
                     have hnc61:=NB233_242.out
                     have hnb62:=NB242_235.out
                     have hnc62:=NB235_242.out
                     have hcz63_0:w27.cell? ⟨gb242,0,none⟩=some (.int .i64 0):=(blk_cell BK242.out 0).trans rfl
                     have hcz63_1:w27.cell? ⟨gb242,1,none⟩=some (.int .i64 0):=(blk_cell BK242.out 1).trans rfl
                     have hfz63_0:=blk_frozen BK242.out 0
                     have hfz63_1:=blk_frozen BK242.out 1
                     go_wp2
                     go_meet
                     case rel=>exact ⟨_,(decide (t237<((rd_T47 (rd_L2 l0 x25_2) x31_3).f1))),(by first|rfl|(simp;done)|(simp [*];done)),H',⟨by have:=HK1.out;have:=HK2.out;have:=HK3.out;first|omega|exact Nat.le_refl _⟩,⟨by (with_reducible repeat (first|refine blk_drewN ?_ _|refine blk_drew ?_|refine blk_alloc ?_ _));refine blk_far ?_ NB233_242.out _;(with_reducible repeat (first|refine blk_drewN ?_ _|refine blk_drew ?_|refine blk_alloc ?_ _));refine blk_far ?_ NB233_242.out _;(with_reducible repeat (first|refine blk_drewN ?_ _|refine blk_drew ?_|refine blk_alloc ?_ _));exact BK233.out⟩,⟨by (with_reducible repeat (first|refine blk_drewN ?_ _|refine blk_drew ?_|refine blk_alloc ?_ _));refine blk_far ?_ NB235_242.out _;(with_reducible repeat (first|refine blk_drewN ?_ _|refine blk_drew ?_|refine blk_alloc ?_ _));refine blk_far ?_ NB235_242.out _;(with_reducible repeat (first|refine blk_drewN ?_ _|refine blk_drew ?_|refine blk_alloc ?_ _));exact BK235.out⟩,⟨by (with_reducible repeat (first|refine blk_drewN ?_ _|refine blk_drew ?_|refine blk_alloc ?_ _));refine blk_far ?_ NB240_242.out _;(with_reducible repeat (first|refine blk_drewN ?_ _|refine blk_drew ?_|refine blk_alloc ?_ _));refine blk_far ?_ NB240_242.out _;(with_reducible repeat (first|refine blk_drewN ?_ _|refine blk_drew ?_|refine blk_alloc ?_ _));exact BK240.out⟩,⟨by (with_reducible repeat (first|refine blk_drewN ?_ _|refine blk_drew ?_|refine blk_alloc ?_ _));refine blk_put (cs:=#[.int .i64 ((rd_T47 (rd_L2 l0 x25_2) (ji19)).f0),.int .i64 0]) ?_ 1 _ rfl;(with_reducible repeat (first|refine blk_drewN ?_ _|refine blk_drew ?_|refine blk_alloc ?_ _));refine blk_put (cs:=#[.int .i64 0,.int .i64 0]) ?_ 0 _ rfl;(with_reducible repeat (first|refine blk_drewN ?_ _|refine blk_drew ?_|refine blk_alloc ?_ _));exact BK242.out⟩,⟨by repeat (first|(with_reducible first|exact HB.out|apply below_alloc|apply pw_below_drewN|apply below_drew1|refine below_set ?_ GE233.out|refine below_set ?_ GE235.out|refine below_set ?_ GE240.out|refine below_set ?_ GE242.out)|exact HB.out)⟩⟩
                    ·rw [if_neg c56] at H
                     have c56b0:decide (((rd_T47 (rd_L2 l0 x25_2) (ji19)).f1)≤t237)=false:=decide_eq_false c56
                     clear c56
                     have H':=aK H
                     clear H
                     have hnb64:=NB240_233.out
                     have hnc64:=NB233_240.out
                     have hnb65:=NB240_235.out
                     have hnc65:=NB235_240.out
                     have hnb66:=NB240_242.out
                     have hnc66:=NB242_240.out
                     have hcz67_0:w27.cell? ⟨gb240,0,none⟩=some (.int .i64 ((rd_T47 (rd_L2 l0 x25_2) x31_3).f0)):=(blk_cell BK240.out 0).trans rfl
                     have hcz67_1:w27.cell? ⟨gb240,1,none⟩=some (.int .i64 ((rd_T47 (rd_L2 l0 x25_2) x31_3).f1)):=(blk_cell BK240.out 1).trans rfl
                     have hfz67_0:=blk_frozen BK240.out 0
                     have hfz67_1:=blk_frozen BK240.out 1
                     have hnb68:=NB242_233.out
                     have hnc68:=NB233_242.out
                     have hnb69:=NB242_235.out
                     have hnc69:=NB235_242.out
                     have hcz70_0:w27.cell? ⟨gb242,0,none⟩=some (.int .i64 0):=(blk_cell BK242.out 0).trans rfl
                     have hcz70_1:w27.cell? ⟨gb242,1,none⟩=some (.int .i64 0):=(blk_cell BK242.out 1).trans rfl
                     have hfz70_0:=blk_frozen BK242.out 0
                     have hfz70_1:=blk_frozen BK242.out 1
                     go_wp2
                     go_meet
                     case rel=>exact ⟨_,(false),(by first|rfl|(simp;done)|(simp [*];done)),H',⟨by have:=HK1.out;have:=HK2.out;have:=HK3.out;first|omega|exact Nat.le_refl _⟩,⟨by (with_reducible repeat (first|refine blk_drewN ?_ _|refine blk_drew ?_|refine blk_alloc ?_ _));refine blk_far ?_ NB233_242.out _;(with_reducible repeat (first|refine blk_drewN ?_ _|refine blk_drew ?_|refine blk_alloc ?_ _));refine blk_far ?_ NB233_242.out _;(with_reducible repeat (first|refine blk_drewN ?_ _|refine blk_drew ?_|refine blk_alloc ?_ _));exact BK233.out⟩,⟨by (with_reducible repeat (first|refine blk_drewN ?_ _|refine blk_drew ?_|refine blk_alloc ?_ _));refine blk_far ?_ NB235_242.out _;(with_reducible repeat (first|refine blk_drewN ?_ _|refine blk_drew ?_|refine blk_alloc ?_ _));refine blk_far ?_ NB235_242.out _;(with_reducible repeat (first|refine blk_drewN ?_ _|refine blk_drew ?_|refine blk_alloc ?_ _));exact BK235.out⟩,⟨by (with_reducible repeat (first|refine blk_drewN ?_ _|refine blk_drew ?_|refine blk_alloc ?_ _));refine blk_far ?_ NB240_242.out _;(with_reducible repeat (first|refine blk_drewN ?_ _|refine blk_drew ?_|refine blk_alloc ?_ _));refine blk_far ?_ NB240_242.out _;(with_reducible repeat (first|refine blk_drewN ?_ _|refine blk_drew ?_|refine blk_alloc ?_ _));exact BK240.out⟩,⟨by (with_reducible repeat (first|refine blk_drewN ?_ _|refine blk_drew ?_|refine blk_alloc ?_ _));refine blk_put (cs:=#[.int .i64 ((rd_T47 (rd_L2 l0 x25_2) (ji19)).f0),.int .i64 0]) ?_ 1 _ rfl;(with_reducible repeat (first|refine blk_drewN ?_ _|refine blk_drew ?_|refine blk_alloc ?_ _));refine blk_put (cs:=#[.int .i64 0,.int .i64 0]) ?_ 0 _ rfl;(with_reducible repeat (first|refine blk_drewN ?_ _|refine blk_drew ?_|refine blk_alloc ?_ _));exact BK242.out⟩,⟨by repeat (first|(with_reducible first|exact HB.out|apply below_alloc|apply pw_below_drewN|apply below_drew1|refine below_set ?_ GE233.out|refine below_set ?_ GE235.out|refine below_set ?_ GE240.out|refine below_set ?_ GE242.out)|exact HB.out)⟩⟩
                  case rest =>
                   clear HC22
                   try clear c1
                   try clear c2
                   try clear p2
                   try clear q2
                   try clear hx2
                   try clear c3
                   try clear c4
                   try clear c5
                   try clear c6
                   try clear p6
                   try clear c7
                   try clear c9
                   try clear c9b0
                   try clear c12
                   try clear c12b0
                   try clear c13
                   try clear c13b0
                   try clear c14
                   try clear c14b0
                   try clear c15
                   try clear c15b0
                   try clear c16
                   try clear c16b0
                   try clear c17
                   try clear c17b0
                   try clear c18
                   try clear c18b0
                   try clear c18b1
                   try clear c18b2
                   try clear c20
                   try clear c20b0
                   try clear c21
                   try clear c21b0
                   try clear c23
                   try clear p23
                   try clear q23
                   try clear hx23
                   try clear c24
                   try clear p24
                   try clear q24
                   try clear hx24
                   try clear c25
                   try clear c27
                   try clear c28
                   try clear c29
                   try clear c30
                   try clear c31
                   try clear c32
                   try clear c32b0
                   try clear c33
                   try clear c33b0
                   try clear c34
                   try clear c35
                   try clear c36
                   try clear c38
                   try clear c39
                   try clear c41
                   try clear c41b0
                   try clear c42
                   try clear c43
                   try clear c44
                   try clear c46
                   try clear c47
                   try clear c49
                   try clear c50
                   try clear c51
                   try clear c53
                   try clear c54
                   try clear c56
                   try clear c56b0
                   try clear c57
                   try clear c58
                   try clear c59
                   try clear c61
                   try clear c62
                   try clear c64
                   try clear p64
                   try clear c65
                   try clear c66
                   try clear c68
                   try clear c69
                   try clear hcz26_0
                   try clear hcz26_1
                   try clear hcz31_0
                   try clear hcz31_1
                   try clear hcz37_0
                   try clear hcz37_1
                   try clear hcz40_0
                   try clear hcz40_1
                   try clear hcz45_0
                   try clear hcz45_1
                   try clear hcz48_0
                   try clear hcz48_1
                   try clear hcz52_0
                   try clear hcz52_1
                   try clear hcz55_0
                   try clear hcz55_1
                   try clear hcz60_0
                   try clear hcz60_1
                   try clear hcz63_0
                   try clear hcz63_1
                   try clear hcz67_0
                   try clear hcz67_1
                   try clear hcz70_0
                   try clear hcz70_1
                   try clear hcz8_0
                   try clear hcz8_1
                   try clear hfz26_0
                   try clear hfz26_1
                   try clear hfz31_0
                   try clear hfz31_1
                   try clear hfz37_0
                   try clear hfz37_1
                   try clear hfz40_0
                   try clear hfz40_1
                   try clear hfz45_0
                   try clear hfz45_1
                   try clear hfz48_0
                   try clear hfz48_1
                   try clear hfz52_0
                   try clear hfz52_1
                   try clear hfz55_0
                   try clear hfz55_1
                   try clear hfz60_0
                   try clear hfz60_1
                   try clear hfz63_0
                   try clear hfz63_1
                   try clear hfz67_0
                   try clear hfz67_1
                   try clear hfz70_0
                   try clear hfz70_1
                   try clear hfz8_0
                   try clear hfz8_1
                   try clear hx238_0
                   try clear hx239_0
                   try clear hx239_1
                   try clear hx241_0
                   try clear hx241_1
                   try clear p2
                   try clear p238
                   try clear p239
                   try clear p241
                   try clear q2
                   try clear q238
                   try clear q239
                   try clear q241
                   obtain ⟨kq,x65_21,rfl,HA,HJ21,BK233,BK235,BK240,BK242,HB⟩:=hcut
                   cases kq with
                   | zero=>exact absurd HA.out (by simp [fleuronref19_Rows.j3])
                   | succ kj21 =>
                    have H:=HA.out
                    clear HA
                    simp only [fleuronref19_Rows.j3] at H
                    by_cases c71:x65_21=true
                    ·subst c71
                     have H1:(if x236000_3<0 then (fleuronref19_Rows.l2 kj21 l0 x17_1 t237 (rd_L2 l0 x25_2) x17_1 l0 (l0.length:Int) x25_2 (rd_L2 l0 x25_2) ((rd_L2 l0 x25_2).length:Int) (wrap64 (x31_3+1)) x17_1 x17_1) else (fleuronref19_Rows.l2 kj21 l0 x17_1 t237 (rd_L2 l0 x25_2) x17_1 l0 (l0.length:Int) x25_2 (rd_L2 l0 x25_2) ((rd_L2 l0 x25_2).length:Int) (wrap64 (x31_3+1)) x236000_3 x17_1))=some (r1,r2,r3):=by rw [if_pos rfl] at H;exact H
                     clear H
                     have H:=H1
                     clear H1
                     by_cases c72:x236000_3<0
                     ·rw [if_pos c72] at H
                      have c72b0:decide (x236000_3<0)=true:=decide_eq_true c72
                      clear c72
                      have H':=aK H
                      clear H
                      have hnb73:=NB235_233.out
                      have hnc73:=NB233_235.out
                      have hnb74:=NB235_240.out
                      have hnc74:=NB240_235.out
                      have hnb75:=NB235_242.out
                      have hnc75:=NB242_235.out
                      have hcz76_0:wc.cell? ⟨gb235,0,none⟩=some (.int .i64 x236000_3):=(blk_cell BK235.out 0).trans rfl
                      have hcz76_1:wc.cell? ⟨gb235,1,none⟩=some (.int .i64 x236001_3):=(blk_cell BK235.out 1).trans rfl
                      have hfz76_0:=blk_frozen BK235.out 0
                      have hfz76_1:=blk_frozen BK235.out 1
                      go_wp2
                      go_roundg kj21
                      case measure=>have:=HK1.out;have:=HK2.out;have:=HK3.out;have:=HJ21.out;omega
                      case rel=>exact ⟨(wrap64 (x31_3+1)),(x17_1),(x17_1),(by first|rfl|(simp;done)|(simp [*];done)),H',⟨by have:=HK1.out;have:=HK2.out;have:=HK3.out;have:=HJ21.out;omega⟩,⟨by (with_reducible repeat (first|refine blk_drewN ?_ _|refine blk_drew ?_|refine blk_alloc ?_ _));refine blk_far ?_ NB233_235.out _;(with_reducible repeat (first|refine blk_drewN ?_ _|refine blk_drew ?_|refine blk_alloc ?_ _));refine blk_far ?_ NB233_235.out _;(with_reducible repeat (first|refine blk_drewN ?_ _|refine blk_drew ?_|refine blk_alloc ?_ _));exact BK233.out⟩,⟨by (with_reducible repeat (first|refine blk_drewN ?_ _|refine blk_drew ?_|refine blk_alloc ?_ _));refine blk_put (cs:=#[.int .i64 x17_1,.int .i64 x236001_3]) ?_ 1 _ rfl;(with_reducible repeat (first|refine blk_drewN ?_ _|refine blk_drew ?_|refine blk_alloc ?_ _));refine blk_put (cs:=#[.int .i64 x236000_3,.int .i64 x236001_3]) ?_ 0 _ rfl;(with_reducible repeat (first|refine blk_drewN ?_ _|refine blk_drew ?_|refine blk_alloc ?_ _));exact BK235.out⟩,⟨by repeat (first|(with_reducible first|exact HB.out|apply below_alloc|apply pw_below_drewN|apply below_drew1|refine below_set ?_ GE233.out|refine below_set ?_ GE235.out|refine below_set ?_ GE240.out|refine below_set ?_ GE242.out)|exact HB.out)⟩⟩
                     ·rw [if_neg c72] at H
                      have c72b0:decide (x236000_3<0)=false:=decide_eq_false c72
                      clear c72
                      have H':=aK H
                      clear H
                      have hnb77:=NB235_233.out
                      have hnc77:=NB233_235.out
                      have hnb78:=NB235_240.out
                      have hnc78:=NB240_235.out
                      have hnb79:=NB235_242.out
                      have hnc79:=NB242_235.out
                      have hcz80_0:wc.cell? ⟨gb235,0,none⟩=some (.int .i64 x236000_3):=(blk_cell BK235.out 0).trans rfl
                      have hcz80_1:wc.cell? ⟨gb235,1,none⟩=some (.int .i64 x236001_3):=(blk_cell BK235.out 1).trans rfl
                      have hfz80_0:=blk_frozen BK235.out 0
                      have hfz80_1:=blk_frozen BK235.out 1
                      go_wp2
                      go_roundg kj21
                      case measure=>have:=HK1.out;have:=HK2.out;have:=HK3.out;have:=HJ21.out;omega
                      case rel=>exact ⟨(wrap64 (x31_3+1)),(x236000_3),(x17_1),(by first|rfl|(simp;done)|(simp [*];done)),H',⟨by have:=HK1.out;have:=HK2.out;have:=HK3.out;have:=HJ21.out;omega⟩,⟨by (with_reducible repeat (first|refine blk_drewN ?_ _|refine blk_drew ?_|refine blk_alloc ?_ _));refine blk_far ?_ NB233_235.out _;(with_reducible repeat (first|refine blk_drewN ?_ _|refine blk_drew ?_|refine blk_alloc ?_ _));exact BK233.out⟩,⟨by (with_reducible repeat (first|refine blk_drewN ?_ _|refine blk_drew ?_|refine blk_alloc ?_ _));refine blk_put (cs:=#[.int .i64 x236000_3,.int .i64 x236001_3]) ?_ 1 _ rfl;(with_reducible repeat (first|refine blk_drewN ?_ _|refine blk_drew ?_|refine blk_alloc ?_ _));exact BK235.out⟩,⟨by repeat (first|(with_reducible first|exact HB.out|apply below_alloc|apply pw_below_drewN|apply below_drew1|refine below_set ?_ GE233.out|refine below_set ?_ GE235.out|refine below_set ?_ GE240.out|refine below_set ?_ GE242.out)|exact HB.out)⟩⟩
                    ·replace c71:=Bool.eq_false_iff.mpr c71
                     subst c71
                     have H1:(fleuronref19_Rows.l2 kj21 l0 x17_1 t237 (rd_L2 l0 x25_2) x17_1 l0 (l0.length:Int) x25_2 (rd_L2 l0 x25_2) ((rd_L2 l0 x25_2).length:Int) (wrap64 (x31_3+1)) x236000_3 x236001_3)=some (r1,r2,r3):=by rw [if_neg (show ¬ (false=true) by decide)] at H;exact H
                     clear H
                     have H:=H1
                     clear H1
                     have H':=aK H
                     clear H
                     go_wp2
                     go_roundg kj21
                     case measure=>have:=HK1.out;have:=HK2.out;have:=HK3.out;have:=HJ21.out;omega
                     case rel=>exact ⟨(wrap64 (x31_3+1)),(x236000_3),(x236001_3),(by first|rfl|(simp;done)|(simp [*];done)),H',⟨by have:=HK1.out;have:=HK2.out;have:=HK3.out;have:=HJ21.out;omega⟩,⟨by (with_reducible repeat (first|refine blk_drewN ?_ _|refine blk_drew ?_|refine blk_alloc ?_ _));exact BK233.out⟩,⟨by (with_reducible repeat (first|refine blk_drewN ?_ _|refine blk_drew ?_|refine blk_alloc ?_ _));exact BK235.out⟩,⟨by repeat (first|(with_reducible first|exact HB.out|apply below_alloc|apply pw_below_drewN|apply below_drew1|refine below_set ?_ GE233.out|refine below_set ?_ GE235.out|refine below_set ?_ GE240.out|refine below_set ?_ GE242.out)|exact HB.out)⟩⟩
                 ·rw [if_neg c21] at H
                  exact absurd H (by simp)
                ·rw [if_neg c20] at H
                 exact absurd H (by simp)
              ·rw [if_neg c17] at H
               exact absurd H (by simp)
             ·rw [if_neg c16] at H
              exact absurd H (by simp)
            ·rw [if_neg c15] at H
             have c15b0:decide (x31_3<((rd_L2 l0 x25_2).length:Int))=false:=decide_eq_false c15
             clear c15
             have H':=aK H
             clear H
             go_wp2
             go_roundg k3
             case measure=>have:=HK1.out;have:=HK2.out;have:=HK3.out;omega
             case rel=>exact ⟨(wrap64 (x25_2+1)),(x236000_3),(x236001_3),(by first|rfl|(simp;done)|(simp [*];done)),H',⟨by have:=HK1.out;have:=HK2.out;have:=HK3.out;omega⟩,⟨by (with_reducible repeat (first|refine blk_drewN ?_ _|refine blk_drew ?_|refine blk_alloc ?_ _));exact BK233.out⟩,⟨by (with_reducible repeat (first|refine blk_drewN ?_ _|refine blk_drew ?_|refine blk_alloc ?_ _));exact BK235.out⟩,⟨by repeat (first|(with_reducible first|exact HB.out|apply below_alloc|apply pw_below_drewN|apply below_drew1|refine below_set ?_ GE233.out|refine below_set ?_ GE235.out)|exact HB.out)⟩⟩
         ·rw [if_neg c14] at H
          exact absurd H (by simp)
        ·rw [if_neg c13] at H
         exact absurd H (by simp)
       ·rw [if_neg c12] at H
        have c12b0:decide (x25_2<(l0.length:Int))=false:=decide_eq_false c12
        clear c12
        have H':=aK H
        clear H
        go_wp2
        go_roundg k2
        case measure=>have:=HK1.out;have:=HK2.out;omega
        case rel=>exact ⟨(wrap64 (x17_1+1)),(x236000_2),(x236001_2),(by first|rfl|(simp;done)|(simp [*];done)),H',⟨by have:=HK1.out;have:=HK2.out;omega⟩,⟨by (with_reducible repeat (first|refine blk_drewN ?_ _|refine blk_drew ?_|refine blk_alloc ?_ _));exact BK233.out⟩,⟨by (with_reducible repeat (first|refine blk_drewN ?_ _|refine blk_drew ?_|refine blk_alloc ?_ _));exact BK235.out⟩,⟨by repeat (first|(with_reducible first|exact HB.out|apply below_alloc|apply pw_below_drewN|apply below_drew1|refine below_set ?_ GE233.out|refine below_set ?_ GE235.out)|exact HB.out)⟩⟩
    ·rw [if_neg c9] at H
     have c9b0:decide (x17_1<256)=false:=decide_eq_false c9
     clear c9
     by_cases c81:x236000_1<0
     ·rw [if_pos c81] at H
      have c81b0:decide (x236000_1<0)=true:=decide_eq_true c81
      clear c81
      simp only [Option.some.injEq,Prod.mk.injEq] at H
      obtain ⟨rfl,rfl,rfl⟩:=H
      have hnb82:=NB235_233.out
      have hnc82:=NB233_235.out
      have hcz83_0:wr.cell? ⟨gb235,0,none⟩=some (.int .i64 x236000_1):=(blk_cell BK235.out 0).trans rfl
      have hcz83_1:wr.cell? ⟨gb235,1,none⟩=some (.int .i64 x236001_1):=(blk_cell BK235.out 1).trans rfl
      have hfz83_0:=blk_frozen BK235.out 0
      have hfz83_1:=blk_frozen BK235.out 1
      have hcz84_0:wr.cell? ⟨gb233,0,none⟩=some (.int .i64 0):=(blk_cell BK233.out 0).trans rfl
      have hcz84_1:wr.cell? ⟨gb233,1,none⟩=some (.int .i64 0):=(blk_cell BK233.out 1).trans rfl
      have hfz84_0:=blk_frozen BK233.out 0
      have hfz84_1:=blk_frozen BK233.out 1
      go_wp2
      refine bodyPost_ret (results_ct rfl _ _ gb233 23 #[.int .i64 0,.int .i64 0] (0,0) _ rfl (by (with_reducible repeat (first|refine blk_drewN ?_ _|refine blk_drew ?_|refine blk_alloc ?_ _));refine blk_put (cs:=#[.int .i64 0,.int .i64 0]) ?_ 1 _ rfl;(with_reducible repeat (first|refine blk_drewN ?_ _|refine blk_drew ?_|refine blk_alloc ?_ _));refine blk_put (cs:=#[.int .i64 0,.int .i64 0]) ?_ 0 _ rfl;(with_reducible repeat (first|refine blk_drewN ?_ _|refine blk_drew ?_|refine blk_alloc ?_ _));exact BK233.out) Tryz.underlying23 rfl (by kernel_rfl)) rfl ?_
      exact ⟨by first|rfl|(simp [errW_none,errW_some] <;> rfl)|(simp [*,errW_none,errW_some] <;> rfl),by repeat (first|(with_reducible first|exact HB.out|apply below_alloc|apply pw_below_drewN|apply below_drew1|refine below_set ?_ GE233.out|refine below_set ?_ GE235.out)|exact HB.out)⟩
     ·rw [if_neg c81] at H
      have c81b0:decide (x236000_1<0)=false:=decide_eq_false c81
      clear c81
      simp only [Option.some.injEq,Prod.mk.injEq] at H
      obtain ⟨rfl,rfl,rfl⟩:=H
      have hnb85:=NB235_233.out
      have hnc85:=NB233_235.out
      have hcz86_0:wr.cell? ⟨gb235,0,none⟩=some (.int .i64 x236000_1):=(blk_cell BK235.out 0).trans rfl
      have hcz86_1:wr.cell? ⟨gb235,1,none⟩=some (.int .i64 x236001_1):=(blk_cell BK235.out 1).trans rfl
      have hfz86_0:=blk_frozen BK235.out 0
      have hfz86_1:=blk_frozen BK235.out 1
      have hcz87_0:wr.cell? ⟨gb233,0,none⟩=some (.int .i64 0):=(blk_cell BK233.out 0).trans rfl
      have hcz87_1:wr.cell? ⟨gb233,1,none⟩=some (.int .i64 0):=(blk_cell BK233.out 1).trans rfl
      have hfz87_0:=blk_frozen BK233.out 0
      have hfz87_1:=blk_frozen BK233.out 1
      go_wp2
      refine bodyPost_ret (results_ct rfl _ _ gb233 23 #[.int .i64 x236000_1,.int .i64 x236001_1] (0,0) _ rfl (by (with_reducible repeat (first|refine blk_drewN ?_ _|refine blk_drew ?_|refine blk_alloc ?_ _));refine blk_put (cs:=#[.int .i64 x236000_1,.int .i64 0]) ?_ 1 _ rfl;(with_reducible repeat (first|refine blk_drewN ?_ _|refine blk_drew ?_|refine blk_alloc ?_ _));refine blk_put (cs:=#[.int .i64 0,.int .i64 0]) ?_ 0 _ rfl;(with_reducible repeat (first|refine blk_drewN ?_ _|refine blk_drew ?_|refine blk_alloc ?_ _));exact BK233.out) Tryz.underlying23 rfl (by kernel_rfl)) rfl ?_
      exact ⟨by first|rfl|(simp [errW_none,errW_some] <;> rfl)|(simp [*,errW_none,errW_some] <;> rfl),by repeat (first|(with_reducible first|exact HB.out|apply below_alloc|apply pw_below_drewN|apply below_drew1|refine below_set ?_ GE233.out|refine below_set ?_ GE235.out)|exact HB.out)⟩
 ·replace c3:=Bool.eq_false_iff.mpr c3
  subst c3
  have H1:(some (0,0,2))=some (r1,r2,r3):=by rw [if_neg (show ¬ (false=true) by decide)] at H;exact H
  clear H
  have H:=H1
  clear H1
  simp only [Option.some.injEq,Prod.mk.injEq] at H
  obtain ⟨rfl,rfl,rfl⟩:=H
  go_enter Tryz.func13,Tryz.ntmps13
  go_wp2_with (first|((with_reducible refine gate_dst (N:=2) rfl ?_);refine box_event ?hg (N:=2) ?hd (cs:=#[.int .i64 0,.int .i64 0]) (t:=23) ?hr ?_;(case hd=>rfl);(case hg=>rfl);(case hr=>first|(go_simp;done)|(go_simp;rfl));intro gb233 hg w88 hbox hb;have n0_:=aK (below_step (by repeat (first|(with_reducible first|exact HB.out|apply below_alloc|apply pw_below_drewN|apply below_drew1)|exact HB.out)) hb);have n1_:=aK (hbox);have n2_:=aK ((by rw [hg];exact (below_size (by repeat (first|(with_reducible first|exact HB.out|apply below_alloc|apply pw_below_drewN|apply below_drew1)|exact HB.out))):w.heap.size≤gb233));have n3_:=n2_;clear HB;have HB:=n0_;have BK233:=n1_;have GW233:=n2_;have GE233:=n3_;clear n0_ n1_ n2_ n3_;clear hb hbox hg)|((with_reducible refine gate_callee (f:=27) rfl ?_);refine goesL_ (some 13) rfl rfl Tryz.func27 (by kernel_rfl) rfl #[.slice A0 l0.length c0] rfl (by (try simp only [List.map_toArray,List.map_cons,List.map_nil]);first|done|rfl|(simp only [List.length_drop,List.length_take];rfl)) ?_;(with_reducible refine (fleuronref17_Some.calls k _ _ l0 false _ ?side1 ?side2 A2.out).mono ?_);(case side1=>repeat (first|exact (Kd.C_below HR0.out HB.out)|(with_reducible refine Kd.C_alloc ?_ _)|(with_reducible refine Kd.C_drewN ?_ _)|(with_reducible refine Kd.C_drew ?_)));(case side2=>exact HC0.out);rintro e w89 ⟨rfl,hb⟩;refine ⟨_,rfl,?_⟩;have n0_:=aK (blk_below (g:=gb233) (o:=.cells #[.int .i64 0,.int .i64 0] 23 (0,0)) (by (with_reducible repeat (first|refine blk_drewN ?_ _|refine blk_drew ?_|refine blk_alloc ?_ _));exact BK233.out) hb);have n1_:=aK (below_step (by repeat (first|(with_reducible first|exact HB.out|apply below_alloc|apply pw_below_drewN|apply below_drew1|refine below_set ?_ GE233.out)|exact HB.out)) hb);clear BK233;clear HB;have BK233:=n0_;have HB:=n1_;clear n0_ n1_;(try clear hb);(try clear hb2);(try clear hk);(try clear hi);have hcz90_0:w89.cell? ⟨gb233,0,none⟩=some (.int .i64 0):=(blk_cell BK233.out 0).trans rfl;have hcz90_1:w89.cell? ⟨gb233,1,none⟩=some (.int .i64 0):=(blk_cell BK233.out 1).trans rfl;have hfz90_0:=blk_frozen BK233.out 0;have hfz90_1:=blk_frozen BK233.out 1))
  refine bodyPost_ret (results_ct rfl _ _ gb233 23 #[.int .i64 0,.int .i64 0] (0,0) _ rfl (by (with_reducible repeat (first|refine blk_drewN ?_ _|refine blk_drew ?_|refine blk_alloc ?_ _));refine blk_put (cs:=#[.int .i64 0,.int .i64 0]) ?_ 1 _ rfl;(with_reducible repeat (first|refine blk_drewN ?_ _|refine blk_drew ?_|refine blk_alloc ?_ _));refine blk_put (cs:=#[.int .i64 0,.int .i64 0]) ?_ 0 _ rfl;(with_reducible repeat (first|refine blk_drewN ?_ _|refine blk_drew ?_|refine blk_alloc ?_ _));exact BK233.out) Tryz.underlying23 rfl (by kernel_rfl)) rfl ?_
  exact ⟨by first|rfl|(simp [errW_none,errW_some] <;> rfl)|(simp [*,errW_none,errW_some] <;> rfl),by repeat (first|(with_reducible first|exact HB.out|apply below_alloc|apply pw_below_drewN|apply below_drew1|refine below_set ?_ GE233.out)|exact HB.out)⟩
end Go.Proofs.YtckjlckhjcbddaaGreat.PG3

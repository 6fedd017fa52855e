import Derived.Test.YtckjlckhjcbddaaGreatPG3x0
import Derived.Test.YtckjlckhjcbddaaGreatPG3x20
import Derived.Test.YtckjlckhjcbddaaGreatPG3x22
set_option maxRecDepth 100000
namespace Go.Proofs.YtckjlckhjcbddaaGreat.PG3
open Go.RowKit Go.Proofs.YtckjlckhjcbddaaGreatW.PrintWords Go.Proofs.YtckjlckhjcbddaaGreatW.PrintLast Go.Proofs.YtckjlckhjcbddaaGreatW.PrintMore
attribute [local go_sem] max2_int min2_int max_two min_two max_three min_three max_four min_four
set_option linter.unusedVariables false
set_option linter.unusedSimpArgs false
def fleuronref17_counted.l0:Nat→List (S47)→Int→Int→Int→List (S47)→Int→Int→Int→Int→Option (Int×Int)
 | 0,_,_,_,_,_,_,_,_,_=>none
 | k+1,x0,x2,x8,x9,x15,x16,x17,x198000,x198001=>if x17<x16 then (if 0≤x17 then (if x17<(x15.length:Int) then ((fleuronref17_next.f x0 x17).bind fun bt200=>((fleuronref17_crossing.f k ((rd_T47 x15 x17).f0) ((rd_T47 x15 x17).f1) bt200.1 bt200.2 x198000 x198001).bind fun bt202=>(if bt202.1=0 then (fleuronref17_counted.l0 k x0 x2 x8 x9 x15 x16 (wrap64 (x17+1)) x198000 x198001) else ((fleuronref17_sign.f (wrap64 (bt202.2.1-(wrap64 (x198000*bt202.2.2))))).bind fun t205=>(if t205=x2 then (fleuronref17_counted.l0 k x0 x2 (wrap64 (x8+bt202.1)) (wrap64 (x9+1)) x15 x16 (wrap64 (x17+1)) x198000 x198001) else (fleuronref17_counted.l0 k x0 x2 x8 x9 x15 x16 (wrap64 (x17+1)) x198000 x198001)))))) else (none)) else (none)) else (some (x8,x9))
def fleuronref17_counted.f (k:Nat) (l0:List (S47)) (a1_0:Int) (a1_1:Int) (a2:Int):Option (Int×Int):=fleuronref17_counted.l0 k l0 a2 0 0 l0 (l0.length:Int) 0 a1_0 a1_1
theorem fleuronref17_counted.mono_l : ∀ k,(∀ y0 y1 y2 y3 y4 y5 y6 y7 y8,LeO (fleuronref17_counted.l0 k y0 y1 y2 y3 y4 y5 y6 y7 y8) (fleuronref17_counted.l0 (k+1) y0 y1 y2 y3 y4 y5 y6 y7 y8))
 | 0=>fun _ _ _ _ _ _ _ _ _ r h=>by simp [fleuronref17_counted.l0] at h
 | k+1=>by
  have ih0:=fleuronref17_counted.mono_l k
  ·intro y0 y1 y2 y3 y4 y5 y6 y7 y8
   unfold fleuronref17_counted.l0
   repeat' first
   | (with_reducible exact ih0 _ _ _ _ _ _ _ _ _)
   | (with_reducible exact fleuronref17_crossing.mono _ _ _ _ _ _ _)
   | (with_reducible exact LeO.refl _)
   | (with_reducible exact LeO.none _)
   | (with_reducible refine LeO.ite ?_ ?_)
   | (with_reducible refine LeO.bind ?_ (fun _=>?_))
   | exact ih0 _ _ _ _ _ _ _ _ _
   | exact fleuronref17_crossing.mono _ _ _ _ _ _ _
   | exact LeO.none _
   | refine LeO.ite ?_ ?_
   | refine LeO.bind ?_ (fun _=>?_)
theorem fleuronref17_counted.mono : ∀ a0 a1 a2 a3 k,LeO (fleuronref17_counted.f k a0 a1 a2 a3) (fleuronref17_counted.f (k+1) a0 a1 a2 a3):=by
 intro a0 a1 a2 a3 k
 have ih0:=fleuronref17_counted.mono_l k
 unfold fleuronref17_counted.f
 repeat' first
   | (with_reducible exact ih0 _ _ _ _ _ _ _ _ _)
   | (with_reducible exact fleuronref17_crossing.mono _ _ _ _ _ _ _)
   | (with_reducible exact LeO.refl _)
   | (with_reducible exact LeO.none _)
   | (with_reducible refine LeO.ite ?_ ?_)
   | (with_reducible refine LeO.bind ?_ (fun _=>?_))
   | exact ih0 _ _ _ _ _ _ _ _ _
   | exact fleuronref17_crossing.mono _ _ _ _ _ _ _
   | exact LeO.none _
   | refine LeO.ite ?_ ?_
   | refine LeO.bind ?_ (fun _=>?_)
def fleuronref17_counted.T5:Bool×List (List Nat×List Nat):=(true,[([],[]),([],[]),([],[]),([1,2],[1,2]),([],[]),([0,3,4,3],[0,3,4]),([5],[5]),([6],[6]),([6],[6]),([6],[6]),([7,5,0,1,2,3,4,5,6,7],[7]),([8,10,0,1,2,3,4,5,6,7,8,10],[8]),([9,11,0,1,2,3,4,5,6,7,8,9,10,11],[9])])
def fleuronref17_counted.B5:List Nat:=[0,0,0,6,0,31,63,127,127,127,255,1535,4095]
theorem fleuronref17_counted.tab5:rtab .any (opsOf Tryz.f101 5)=fleuronref17_counted.T5:=by kernel_rfl
theorem fleuronref17_counted.bits5:waitsOk fleuronref17_counted.T5.2 fleuronref17_counted.B5=true:=by kernel_rfl
set_option maxHeartbeats 8000000 in
theorem fleuronref17_counted.calls (k:Nat) (A0:Option Addr) (c0:Nat) (l0:List (S47)) (a1_0:Int) (a1_1:Int) (a2:Int) (r1:Int) (r2:Int) (w:World) (hr0:Kd.C k47 w A0 l0.length l0) (hc0:l0.length≤c0) (h:fleuronref17_counted.f k l0 a1_0 a1_1 a2=some (r1,r2)) :
  Calls Tryz.prog 101 #[.slice A0 l0.length c0,.agg #[.int .i64 a1_0,.int .i64 a1_1],.int .i64 a2] w fun e w'=>e = .returned (.tuple #[.int .i64 r1,.int .i64 r2])∧Below w.heap.size w w':=by
 have hu47:=Tryz.underlying47
 have HR0:=aK hr0
 have HC0:=aK hc0
 clear hr0 hc0
 have HB:=aK (Below.refl w.heap.size w)
 have H:(fleuronref17_counted.l0 k l0 a2 0 0 l0 (l0.length:Int) 0 a1_0 a1_1)=some (r1,r2):=h
 clear h
 have H':=aK H
 clear H
 go_enter Tryz.func101,Tryz.ntmps101
 go_wp2_with ((with_reducible refine gate_dst (N:=4) rfl ?_);refine box_event ?hg (N:=4) ?hd (cs:=#[.int .i64 a1_0,.int .i64 a1_1]) (t:=47) ?hr ?_;(case hd=>rfl);(case hg=>rfl);(case hr=>first|(go_simp;done)|(go_simp;rfl));intro gb197 hg w4 hbox hb;have n0_:=aK (below_step (by repeat (first|(with_reducible first|exact HB.out|apply below_alloc|apply pw_below_drewN|apply below_drew1)|exact HB.out)) hb);have n1_:=aK (hbox);have n2_:=aK ((by rw [hg];exact (below_size (by repeat (first|(with_reducible first|exact HB.out|apply below_alloc|apply pw_below_drewN|apply below_drew1)|exact HB.out))):w.heap.size≤gb197));have n3_:=n2_;clear HB;have HB:=n0_;have BK197:=n1_;have GW197:=n2_;have GE197:=n3_;clear n0_ n1_ n2_ n3_;clear hb hbox hg)
 go_loopg [8,9,17] k (fun kq v8 v9 v17 w'=>∃ (x8_1:Int) (x9_1:Int) (x17_1:Int),v8 = .int .i64 x8_1∧v9 = .int .i64 x9_1∧v17 = .int .i64 x17_1∧Aside0 (fleuronref17_counted.l0 kq l0 a2 x8_1 x9_1 l0 (l0.length:Int) x17_1 a1_0 a1_1=some (r1,r2))∧Aside0 (kq≤k)∧Aside0 (w'.heap[gb197]?=some (.cells #[.int .i64 a1_0,.int .i64 a1_1] 47 (0,0)))∧Aside0 (Below w.heap.size w w'))
 case atStart=>exact ⟨(0),(0),(0),(by first|rfl|(simp;done)|(simp [*];done)),(by first|rfl|(simp;done)|(simp [*];done)),(by first|rfl|(simp;done)|(simp [*];done)),H',⟨Nat.le_refl _⟩,⟨by (with_reducible repeat (first|refine blk_drewN ?_ _|refine blk_drew ?_|refine blk_alloc ?_ _));exact BK197.out⟩,⟨by repeat (first|(with_reducible first|exact HB.out|apply below_alloc|apply pw_below_drewN|apply below_drew1|refine below_set ?_ GE197.out)|exact HB.out)⟩⟩
 case round =>
  clear H'
  try clear c1
  try clear p2
  obtain ⟨x8_1,x9_1,x17_1,rfl,rfl,rfl,HA,HK1,BK197,HB⟩:=hrel
  cases gk with
  | zero=>exact absurd HA.out (by simp [fleuronref17_counted.l0])
  | succ k1 =>
   have H:=HA.out
   clear HA
   simp only [fleuronref17_counted.l0] at H
   by_cases c5:x17_1<(l0.length:Int)
   ·rw [if_pos c5] at H
    have c5b0:decide (x17_1<(l0.length:Int))=true:=decide_eq_true c5
    clear c5
    by_cases c6:0≤x17_1
    ·rw [if_pos c6] at H
     have c6b0:decide (0≤x17_1)=true:=decide_eq_true c6
     clear c6
     by_cases c7:x17_1<(l0.length:Int)
     ·rw [if_pos c7] at H
      have c7b0:decide (x17_1<(l0.length:Int))=true:=decide_eq_true c7
      clear c7
      replace H:=Option.bind_eq_some_iff.mp H
      obtain ⟨⟨t200,t201⟩,A80,H⟩:=H
      replace H:((fleuronref17_crossing.f k1 ((rd_T47 l0 x17_1).f0) ((rd_T47 l0 x17_1).f1) t200 t201 a1_0 a1_1).bind fun bt202=>(if bt202.1=0 then (fleuronref17_counted.l0 k1 l0 a2 x8_1 x9_1 l0 (l0.length:Int) (wrap64 (x17_1+1)) a1_0 a1_1) else ((fleuronref17_sign.f (wrap64 (bt202.2.1-(wrap64 (a1_0*bt202.2.2))))).bind fun t205=>(if t205=a2 then (fleuronref17_counted.l0 k1 l0 a2 (wrap64 (x8_1+bt202.1)) (wrap64 (x9_1+1)) l0 (l0.length:Int) (wrap64 (x17_1+1)) a1_0 a1_1) else (fleuronref17_counted.l0 k1 l0 a2 x8_1 x9_1 l0 (l0.length:Int) (wrap64 (x17_1+1)) a1_0 a1_1)))))=some (r1,r2):=H
      have A8:=aK A80
      clear A80
      replace H:=Option.bind_eq_some_iff.mp H
      obtain ⟨⟨t202,t203,t204⟩,A90,H⟩:=H
      replace H:(if t202=0 then (fleuronref17_counted.l0 k1 l0 a2 x8_1 x9_1 l0 (l0.length:Int) (wrap64 (x17_1+1)) a1_0 a1_1) else ((fleuronref17_sign.f (wrap64 (t203-(wrap64 (a1_0*t204))))).bind fun t205=>(if t205=a2 then (fleuronref17_counted.l0 k1 l0 a2 (wrap64 (x8_1+t202)) (wrap64 (x9_1+1)) l0 (l0.length:Int) (wrap64 (x17_1+1)) a1_0 a1_1) else (fleuronref17_counted.l0 k1 l0 a2 x8_1 x9_1 l0 (l0.length:Int) (wrap64 (x17_1+1)) a1_0 a1_1))))=some (r1,r2):=H
      have A9:=aK A90
      clear A90
      by_cases c10:t202=0
      ·rw [if_pos c10] at H
       have c10b0:(t202 == 0)=true:=beq_iff_eq.mpr c10
       have c10b1:(t202 != 0)=false:=bne_eq_false_iff_eq.mpr c10
       clear c10
       have H':=aK H
       clear H
       have p198:0≤(x17_1:Int):=of_decide_eq_true (by first|(with_reducible assumption)|assumption)
       have q198:x17_1<(l0.length:Int):=of_decide_eq_true (by first|(with_reducible assumption)|assumption)
       obtain ⟨ad198,e198,hx198_0,hx198_1⟩:=at_T47 HR0.out x17_1 p198 q198
       cases e198
       replace hx198_0:=(HB.out.cell (World.block_lt_of_cell? w _ hx198_0)).trans hx198_0
       replace hx198_1:=(HB.out.cell (World.block_lt_of_cell? w _ hx198_1)).trans hx198_1
       replace p198:=eq_true p198
       replace q198:=eq_true q198
       try go_wp2_with ((with_reducible refine gate_dst (N:=11) rfl ?_);refine box_event ?hg (N:=11) ?hd (cs:=#[.int .i64 0,.int .i64 0]) (t:=47) ?hr ?_;(case hd=>rfl);(case hg=>rfl);(case hr=>first|(go_simp;done)|(go_simp;rfl));intro gb199 hg w11 hbox hb;have n0_:=aK (blk_below (g:=gb197) (o:=.cells #[.int .i64 a1_0,.int .i64 a1_1] 47 (0,0)) (by (with_reducible repeat (first|refine blk_drewN ?_ _|refine blk_drew ?_|refine blk_alloc ?_ _));exact BK197.out) hb);have n1_:=aK (below_step (by repeat (first|(with_reducible first|exact HB.out|apply below_alloc|apply pw_below_drewN|apply below_drew1|refine below_set ?_ GE197.out)|exact HB.out)) hb);have n2_:=aK (hbox);have n3_:=aK ((by rw [hg];exact (below_size (by repeat (first|(with_reducible first|exact HB.out|apply below_alloc|apply pw_below_drewN|apply below_drew1|refine below_set ?_ GE197.out)|exact HB.out))):w.heap.size≤gb199));have n4_:=n3_;have n5_:=aK ((by rw [hg];exact Nat.ne_of_lt (blk_lt (g:=gb197) (o:=.cells #[.int .i64 a1_0,.int .i64 a1_1] 47 (0,0)) (by (with_reducible repeat (first|refine blk_drewN ?_ _|refine blk_drew ?_|refine blk_alloc ?_ _));exact BK197.out)):gb197≠gb199));have n6_:=aK (Ne.symm n5_.out);clear BK197;clear HB;have BK197:=n0_;have HB:=n1_;have BK199:=n2_;have GW199:=n3_;have GE199:=n4_;have NB197_199:=n5_;have NB199_197:=n6_;clear n0_ n1_ n2_ n3_ n4_ n5_ n6_;clear hb hbox hg;have hnb12:=NB199_197.out;have hnc12:=NB197_199.out;have hcz13_0:w11.cell? ⟨gb199,0,none⟩=some (.int .i64 0):=(blk_cell BK199.out 0).trans rfl;have hcz13_1:w11.cell? ⟨gb199,1,none⟩=some (.int .i64 0):=(blk_cell BK199.out 1).trans rfl;have hfz13_0:=blk_frozen BK199.out 0;have hfz13_1:=blk_frozen BK199.out 1)
       have n0_:Aside0 (((w11.setCell ⟨gb199,0,none⟩ (.int .i64 ((rd_T47 l0 x17_1).f0))).setCell ⟨gb199,1,none⟩ (.int .i64 ((rd_T47 l0 x17_1).f1))).heap[gb197]?=some (.cells #[.int .i64 a1_0,.int .i64 a1_1] 47 (0,0))):=⟨by (with_reducible repeat (first|refine blk_drewN ?_ _|refine blk_drew ?_|refine blk_alloc ?_ _));refine blk_far ?_ NB197_199.out _;(with_reducible repeat (first|refine blk_drewN ?_ _|refine blk_drew ?_|refine blk_alloc ?_ _));refine blk_far ?_ NB197_199.out _;(with_reducible repeat (first|refine blk_drewN ?_ _|refine blk_drew ?_|refine blk_alloc ?_ _));exact BK197.out⟩
       have n1_:Aside0 (((w11.setCell ⟨gb199,0,none⟩ (.int .i64 ((rd_T47 l0 x17_1).f0))).setCell ⟨gb199,1,none⟩ (.int .i64 ((rd_T47 l0 x17_1).f1))).heap[gb199]?=some (.cells #[.int .i64 ((rd_T47 l0 x17_1).f0),.int .i64 ((rd_T47 l0 x17_1).f1)] 47 (0,0))):=⟨by (with_reducible repeat (first|refine blk_drewN ?_ _|refine blk_drew ?_|refine blk_alloc ?_ _));refine blk_put (cs:=#[.int .i64 ((rd_T47 l0 x17_1).f0),.int .i64 0]) ?_ 1 _ rfl;(with_reducible repeat (first|refine blk_drewN ?_ _|refine blk_drew ?_|refine blk_alloc ?_ _));refine blk_put (cs:=#[.int .i64 0,.int .i64 0]) ?_ 0 _ rfl;(with_reducible repeat (first|refine blk_drewN ?_ _|refine blk_drew ?_|refine blk_alloc ?_ _));exact BK199.out⟩
       have n2_:Aside0 (Below w.heap.size w ((w11.setCell ⟨gb199,0,none⟩ (.int .i64 ((rd_T47 l0 x17_1).f0))).setCell ⟨gb199,1,none⟩ (.int .i64 ((rd_T47 l0 x17_1).f1)))):=⟨by repeat (first|(with_reducible first|exact HB.out|apply below_alloc|apply pw_below_drewN|apply below_drew1|refine below_set ?_ GE197.out|refine below_set ?_ GE199.out)|exact HB.out)⟩
       (try clear BK197)
       (try clear BK199)
       (try clear HB)
       generalize ((w11.setCell ⟨gb199,0,none⟩ (.int .i64 ((rd_T47 l0 x17_1).f0))).setCell ⟨gb199,1,none⟩ (.int .i64 ((rd_T47 l0 x17_1).f1)))=w14 at n0_ n1_ n2_ ⊢
       have BK197:=n0_
       have BK199:=n1_
       have HB:=n2_
       clear n0_ n1_ n2_
       have n0_:=aK (blk_drew BK197.out)
       have n1_:=aK (blk_drew BK199.out)
       have n2_:=aK (below_drew1 HB.out)
       clear BK197
       clear BK199
       clear HB
       have BK197:=n0_
       have BK199:=n1_
       have HB:=n2_
       clear n0_ n1_ n2_
       refine start_ (n:=13) (S:=fun w'=>w'.cell? ⟨gb199,0,none⟩=some (.int .i64 ((rd_T47 l0 x17_1).f0))∧w'.cell? ⟨gb199,1,none⟩=some (.int .i64 ((rd_T47 l0 x17_1).f1))∧w'.cell? ⟨gb197,0,none⟩=some (.int .i64 a1_0)∧w'.cell? ⟨gb197,1,none⟩=some (.int .i64 a1_1)) (ds:=[]) #[false,false,false,false,false,false,false,false,false,false,false,false,false] (by kernel_rfl) rfl rfl ⟨(blk_cell BK199.out 0).trans rfl,(blk_cell BK199.out 1).trans rfl,(blk_cell BK197.out 0).trans rfl,(blk_cell BK197.out 1).trans rfl⟩ (fun hHeld=>?_);refine with_tabW fleuronref17_counted.tab5 fleuronref17_counted.bits5 (fun HT_ HW_=>?_)
       generalize w14.drew=w15 at BK197 BK199 HB hHeld ⊢
       refine pure_ (i:=1) (N:=some 24) (v:=?_) (a':=?_) #[false,true,false,false,false,false,false,false,false,false,false,false,false] rfl rfl (any_of HT_.out (by kernel_rfl)) (fun _ _ _ h=>h) (Or.inl ⟨by rfl,?_⟩) ?_ ?_
       rotate_left
       ·intro w'
        go_simp
        with_reducible rfl
       rotate_left
       ·simp only [Act.put,lS,i64_w,i32_w]
        rfl
       refine pure_ (i:=2) (N:=some 25) (v:=?_) (a':=?_) #[false,true,true,false,false,false,false,false,false,false,false,false,false] rfl rfl (any_of HT_.out (by kernel_rfl)) (fun _ _ _ h=>h) (Or.inl ⟨by rfl,?_⟩) ?_ ?_
       rotate_left
       ·intro w'
        go_simp
        with_reducible rfl
       rotate_left
       ·simp only [Act.put,lS,i64_w,i32_w]
        rfl
       refine take_ (i:=0) (N:=some 23) (v:=?_) (a':=?_) #[true,true,true,false,false,false,false,false,false,false,false,false,false] rfl rfl (take_ofW HT_.out HW_.out (by kernel_rfl)) (fun _ _ _ h=>h) (Or.inl ⟨by rfl,?_⟩) hHeld ?_ ?_
       rotate_left
       ·rintro w' ⟨s0,s1,s2,s3⟩
        go_simp
        with_reducible rfl
       rotate_left
       ·simp only [Act.put,lS,i64_w,i32_w]
        rfl
       refine take_ (i:=4) (N:=some 27) (v:=?_) (a':=?_) #[true,true,true,false,true,false,false,false,false,false,false,false,false] rfl rfl (take_ofW HT_.out HW_.out (by kernel_rfl)) (fun _ _ _ h=>h) (Or.inl ⟨by rfl,?_⟩) hHeld ?_ ?_
       rotate_left
       ·rintro w' ⟨s0,s1,s2,s3⟩
        go_simp
        with_reducible rfl
       rotate_left
       ·simp only [Act.put,lS,i64_w,i32_w]
        rfl
       refine one_ (i:=3) (N:=some 26) #[true,true,true,true,true,false,false,false,false,false,false,false,false] rfl rfl (one_of HT_.out (by kernel_rfl)) (by decide) (fun K hK=>?_)
       refine goes_ Tryz.func124 (by kernel_rfl) rfl #[.slice (some ad198) l0.length c0,.int .i64 x17_1] (by rfl) rfl rfl (by (try simp only [List.map_toArray,List.map_cons,List.map_nil]);first|done|rfl|(simp only [List.length_drop,List.length_take];rfl)) ?_
       with_reducible refine (fleuronref17_next.calls _ _ l0 x17_1 t200 t201 _ ?side1 ?side2 A8.out).mono ?_
       (case side1=>repeat (first|exact (Kd.C_below HR0.out HB.out)|(with_reducible refine Kd.C_alloc ?_ _)|(with_reducible refine Kd.C_drewN ?_ _)|(with_reducible refine Kd.C_drew ?_)))
       (case side2=>exact HC0.out)
       rintro e w16 ⟨rfl,hb⟩
       refine ⟨_,rfl,?_⟩
       have n0_:=aK (blk_below (g:=gb197) (o:=.cells #[.int .i64 a1_0,.int .i64 a1_1] 47 (0,0)) (by (with_reducible repeat (first|refine blk_drewN ?_ _|refine blk_drew ?_|refine blk_alloc ?_ _));exact BK197.out) hb)
       have n1_:=aK (blk_below (g:=gb199) (o:=.cells #[.int .i64 ((rd_T47 l0 x17_1).f0),.int .i64 ((rd_T47 l0 x17_1).f1)] 47 (0,0)) (by (with_reducible repeat (first|refine blk_drewN ?_ _|refine blk_drew ?_|refine blk_alloc ?_ _));exact BK199.out) hb)
       have n2_:=aK (below_step (by repeat (first|(with_reducible first|exact HB.out|apply below_alloc|apply pw_below_drewN|apply below_drew1|refine below_set ?_ GE197.out|refine below_set ?_ GE199.out)|exact HB.out)) hb)
       clear BK197
       clear BK199
       clear HB
       have BK197:=n0_
       have BK199:=n1_
       have HB:=n2_
       clear n0_ n1_ n2_
       (try clear hb)
       (try clear hb2)
       (try clear hk)
       (try clear hi)
       refine hK.out _ _ ⟨(blk_cell BK199.out 0).trans rfl,(blk_cell BK199.out 1).trans rfl,(blk_cell BK197.out 0).trans rfl,(blk_cell BK197.out 1).trans rfl⟩ (fun hHeld=>?_)
       clear hK K
       refine norm_ (a':=?_) ?_ ?_
       rotate_left
       ·show Act.put _ (some 26) _=_
        simp only [Act.put,lS,i64_w,i32_w]
        rfl
       refine one_ (i:=5) (N:=some 28) #[true,true,true,true,true,true,false,false,false,false,false,false,false] rfl rfl (one_of HT_.out (by kernel_rfl)) (by decide) (fun K hK=>?_)
       refine goes_ Tryz.func123 (by kernel_rfl) rfl #[.agg #[.int .i64 ((rd_T47 l0 x17_1).f0),.int .i64 ((rd_T47 l0 x17_1).f1)],.agg #[.int .i64 t200,.int .i64 t201],.agg #[.int .i64 a1_0,.int .i64 a1_1]] (by rfl) rfl rfl (by (try simp only [List.map_toArray,List.map_cons,List.map_nil]);first|done|rfl|(simp only [List.length_drop,List.length_take];rfl)) ?_
       with_reducible refine (fleuronref17_crossing.calls k1 ((rd_T47 l0 x17_1).f0) ((rd_T47 l0 x17_1).f1) t200 t201 a1_0 a1_1 t202 t203 t204 _ A9.out).mono ?_
       rintro e w17 ⟨rfl,hb⟩
       refine ⟨_,rfl,?_⟩
       have n0_:=aK (blk_below (g:=gb197) (o:=.cells #[.int .i64 a1_0,.int .i64 a1_1] 47 (0,0)) (by (with_reducible repeat (first|refine blk_drewN ?_ _|refine blk_drew ?_|refine blk_alloc ?_ _));exact BK197.out) hb)
       have n1_:=aK (blk_below (g:=gb199) (o:=.cells #[.int .i64 ((rd_T47 l0 x17_1).f0),.int .i64 ((rd_T47 l0 x17_1).f1)] 47 (0,0)) (by (with_reducible repeat (first|refine blk_drewN ?_ _|refine blk_drew ?_|refine blk_alloc ?_ _));exact BK199.out) hb)
       have n2_:=aK (below_step (by repeat (first|(with_reducible first|exact HB.out|apply below_alloc|apply pw_below_drewN|apply below_drew1|refine below_set ?_ GE197.out|refine below_set ?_ GE199.out)|exact HB.out)) hb)
       clear BK197
       clear BK199
       clear HB
       have BK197:=n0_
       have BK199:=n1_
       have HB:=n2_
       clear n0_ n1_ n2_
       (try clear hb)
       (try clear hb2)
       (try clear hk)
       (try clear hi)
       refine hK.out _ _ ⟨(blk_cell BK199.out 0).trans rfl,(blk_cell BK199.out 1).trans rfl,(blk_cell BK197.out 0).trans rfl,(blk_cell BK197.out 1).trans rfl⟩ (fun hHeld=>?_)
       clear hK K
       refine norm_ (a':=?_) ?_ ?_
       rotate_left
       ·show Act.put _ (some 28) _=_
        simp only [Act.put,lS,i64_w,i32_w]
        rfl
       refine pure_ (i:=6) (N:=some 22) (v:=?_) (a':=?_) #[true,true,true,true,true,true,true,false,false,false,false,false,false] rfl rfl (any_of HT_.out (by kernel_rfl)) (fun _ _ _ h=>h) (Or.inl ⟨by rfl,?_⟩) ?_ ?_
       rotate_left
       ·intro w'
        go_simp
        with_reducible rfl
       rotate_left
       ·simp only [Act.put,lS,i64_w,i32_w]
        rfl
       refine pure_ (i:=7) (N:=some 29) (v:=?_) (a':=?_) #[true,true,true,true,true,true,true,true,false,false,false,false,false] rfl rfl (any_of HT_.out (by kernel_rfl)) (fun _ _ _ h=>h) (Or.inl ⟨by rfl,?_⟩) ?_ ?_
       rotate_left
       ·intro w'
        go_simp
        with_reducible rfl
       rotate_left
       ·simp only [Act.put,lS,i64_w,i32_w]
        rfl
       refine pure_ (i:=8) (N:=some 30) (v:=?_) (a':=?_) #[true,true,true,true,true,true,true,true,true,false,false,false,false] rfl rfl (any_of HT_.out (by kernel_rfl)) (fun _ _ _ h=>h) (Or.inl ⟨by rfl,?_⟩) ?_ ?_
       rotate_left
       ·intro w'
        go_simp
        with_reducible rfl
       rotate_left
       ·simp only [Act.put,lS,i64_w,i32_w]
        rfl
       refine pure_ (i:=9) (N:=some 31) (v:=?_) (a':=?_) #[true,true,true,true,true,true,true,true,true,true,false,false,false] rfl rfl (any_of HT_.out (by kernel_rfl)) (fun _ _ _ h=>h) (Or.inl ⟨by rfl,?_⟩) ?_ ?_
       rotate_left
       ·intro w'
        go_simp
        with_reducible rfl
       rotate_left
       ·simp only [Act.put,lS,i64_w,i32_w]
        rfl
       refine pure_ (i:=10) (N:=some 12) (v:=?_) (a':=?_) #[true,true,true,true,true,true,true,true,true,true,true,false,false] rfl rfl (any_of HT_.out (by kernel_rfl)) (fun _ _ _ h=>h) (Or.inl ⟨by rfl,?_⟩) ?_ ?_
       rotate_left
       ·intro w'
        go_simp
        with_reducible rfl
       rotate_left
       ·simp only [Act.put,lS,i64_w,i32_w]
        rfl
       refine pure_ (i:=11) (N:=some 13) (v:=?_) (a':=?_) #[true,true,true,true,true,true,true,true,true,true,true,true,false] rfl rfl (any_of HT_.out (by kernel_rfl)) (fun _ _ _ h=>h) (Or.inl ⟨by rfl,?_⟩) ?_ ?_
       rotate_left
       ·intro w'
        go_simp
        with_reducible rfl
       rotate_left
       ·simp only [Act.put,lS,i64_w,i32_w]
        rfl
       refine pure_ (i:=12) (N:=some 14) (v:=?_) (a':=?_) #[true,true,true,true,true,true,true,true,true,true,true,true,true] rfl rfl (any_of HT_.out (by kernel_rfl)) (fun _ _ _ h=>h) (Or.inl ⟨by rfl,?_⟩) ?_ ?_
       rotate_left
       ·intro w'
        go_simp
        with_reducible rfl
       rotate_left
       ·simp only [Act.put,lS,i64_w,i32_w]
        rfl
       refine done_ (done_of HT_.out (by kernel_rfl)) ?_
       try go_wp2
       go_roundg k1
       case measure=>have:=HK1.out;omega
       case rel=>exact ⟨(x8_1),(x9_1),(wrap64 (x17_1+1)),(by first|rfl|(simp;done)|(simp [*];done)),(by first|rfl|(simp;done)|(simp [*];done)),(by first|rfl|(simp;done)|(simp [*];done)),H',⟨by have:=HK1.out;omega⟩,⟨by (with_reducible repeat (first|refine blk_drewN ?_ _|refine blk_drew ?_|refine blk_alloc ?_ _));exact BK197.out⟩,⟨by repeat (first|(with_reducible first|exact HB.out|apply below_alloc|apply pw_below_drewN|apply below_drew1|refine below_set ?_ GE197.out|refine below_set ?_ GE199.out)|exact HB.out)⟩⟩
      ·rw [if_neg c10] at H
       have c10b0:(t202 == 0)=false:=beq_eq_false_iff_ne.mpr c10
       have c10b1:(t202 != 0)=true:=bne_iff_ne.mpr c10
       replace H:=Option.bind_eq_some_iff.mp H
       obtain ⟨t205,A180,H⟩:=H
       replace H:(if t205=a2 then (fleuronref17_counted.l0 k1 l0 a2 (wrap64 (x8_1+t202)) (wrap64 (x9_1+1)) l0 (l0.length:Int) (wrap64 (x17_1+1)) a1_0 a1_1) else (fleuronref17_counted.l0 k1 l0 a2 x8_1 x9_1 l0 (l0.length:Int) (wrap64 (x17_1+1)) a1_0 a1_1))=some (r1,r2):=H
       have A18:=aK A180
       clear A180
       by_cases c19:t205=a2
       ·rw [if_pos c19] at H
        have c19b0:(t205 == a2)=true:=beq_iff_eq.mpr c19
        have c19b1:(t205 != a2)=false:=bne_eq_false_iff_eq.mpr c19
        clear c19
        have H':=aK H
        clear H
        have p198:0≤(x17_1:Int):=of_decide_eq_true (by first|(with_reducible assumption)|assumption)
        have q198:x17_1<(l0.length:Int):=of_decide_eq_true (by first|(with_reducible assumption)|assumption)
        obtain ⟨ad198,e198,hx198_0,hx198_1⟩:=at_T47 HR0.out x17_1 p198 q198
        cases e198
        replace hx198_0:=(HB.out.cell (World.block_lt_of_cell? w _ hx198_0)).trans hx198_0
        replace hx198_1:=(HB.out.cell (World.block_lt_of_cell? w _ hx198_1)).trans hx198_1
        replace p198:=eq_true p198
        replace q198:=eq_true q198
        try go_wp2_with ((with_reducible refine gate_dst (N:=11) rfl ?_);refine box_event ?hg (N:=11) ?hd (cs:=#[.int .i64 0,.int .i64 0]) (t:=47) ?hr ?_;(case hd=>rfl);(case hg=>rfl);(case hr=>first|(go_simp;done)|(go_simp;rfl));intro gb199 hg w20 hbox hb;have n0_:=aK (blk_below (g:=gb197) (o:=.cells #[.int .i64 a1_0,.int .i64 a1_1] 47 (0,0)) (by (with_reducible repeat (first|refine blk_drewN ?_ _|refine blk_drew ?_|refine blk_alloc ?_ _));exact BK197.out) hb);have n1_:=aK (below_step (by repeat (first|(with_reducible first|exact HB.out|apply below_alloc|apply pw_below_drewN|apply below_drew1|refine below_set ?_ GE197.out)|exact HB.out)) hb);have n2_:=aK (hbox);have n3_:=aK ((by rw [hg];exact (below_size (by repeat (first|(with_reducible first|exact HB.out|apply below_alloc|apply pw_below_drewN|apply below_drew1|refine below_set ?_ GE197.out)|exact HB.out))):w.heap.size≤gb199));have n4_:=n3_;have n5_:=aK ((by rw [hg];exact Nat.ne_of_lt (blk_lt (g:=gb197) (o:=.cells #[.int .i64 a1_0,.int .i64 a1_1] 47 (0,0)) (by (with_reducible repeat (first|refine blk_drewN ?_ _|refine blk_drew ?_|refine blk_alloc ?_ _));exact BK197.out)):gb197≠gb199));have n6_:=aK (Ne.symm n5_.out);clear BK197;clear HB;have BK197:=n0_;have HB:=n1_;have BK199:=n2_;have GW199:=n3_;have GE199:=n4_;have NB197_199:=n5_;have NB199_197:=n6_;clear n0_ n1_ n2_ n3_ n4_ n5_ n6_;clear hb hbox hg;have hnb21:=NB199_197.out;have hnc21:=NB197_199.out;have hcz22_0:w20.cell? ⟨gb199,0,none⟩=some (.int .i64 0):=(blk_cell BK199.out 0).trans rfl;have hcz22_1:w20.cell? ⟨gb199,1,none⟩=some (.int .i64 0):=(blk_cell BK199.out 1).trans rfl;have hfz22_0:=blk_frozen BK199.out 0;have hfz22_1:=blk_frozen BK199.out 1)
        have n0_:Aside0 (((w20.setCell ⟨gb199,0,none⟩ (.int .i64 ((rd_T47 l0 x17_1).f0))).setCell ⟨gb199,1,none⟩ (.int .i64 ((rd_T47 l0 x17_1).f1))).heap[gb197]?=some (.cells #[.int .i64 a1_0,.int .i64 a1_1] 47 (0,0))):=⟨by (with_reducible repeat (first|refine blk_drewN ?_ _|refine blk_drew ?_|refine blk_alloc ?_ _));refine blk_far ?_ NB197_199.out _;(with_reducible repeat (first|refine blk_drewN ?_ _|refine blk_drew ?_|refine blk_alloc ?_ _));refine blk_far ?_ NB197_199.out _;(with_reducible repeat (first|refine blk_drewN ?_ _|refine blk_drew ?_|refine blk_alloc ?_ _));exact BK197.out⟩
        have n1_:Aside0 (((w20.setCell ⟨gb199,0,none⟩ (.int .i64 ((rd_T47 l0 x17_1).f0))).setCell ⟨gb199,1,none⟩ (.int .i64 ((rd_T47 l0 x17_1).f1))).heap[gb199]?=some (.cells #[.int .i64 ((rd_T47 l0 x17_1).f0),.int .i64 ((rd_T47 l0 x17_1).f1)] 47 (0,0))):=⟨by (with_reducible repeat (first|refine blk_drewN ?_ _|refine blk_drew ?_|refine blk_alloc ?_ _));refine blk_put (cs:=#[.int .i64 ((rd_T47 l0 x17_1).f0),.int .i64 0]) ?_ 1 _ rfl;(with_reducible repeat (first|refine blk_drewN ?_ _|refine blk_drew ?_|refine blk_alloc ?_ _));refine blk_put (cs:=#[.int .i64 0,.int .i64 0]) ?_ 0 _ rfl;(with_reducible repeat (first|refine blk_drewN ?_ _|refine blk_drew ?_|refine blk_alloc ?_ _));exact BK199.out⟩
        have n2_:Aside0 (Below w.heap.size w ((w20.setCell ⟨gb199,0,none⟩ (.int .i64 ((rd_T47 l0 x17_1).f0))).setCell ⟨gb199,1,none⟩ (.int .i64 ((rd_T47 l0 x17_1).f1)))):=⟨by repeat (first|(with_reducible first|exact HB.out|apply below_alloc|apply pw_below_drewN|apply below_drew1|refine below_set ?_ GE197.out|refine below_set ?_ GE199.out)|exact HB.out)⟩
        (try clear BK197)
        (try clear BK199)
        (try clear HB)
        generalize ((w20.setCell ⟨gb199,0,none⟩ (.int .i64 ((rd_T47 l0 x17_1).f0))).setCell ⟨gb199,1,none⟩ (.int .i64 ((rd_T47 l0 x17_1).f1)))=w23 at n0_ n1_ n2_ ⊢
        have BK197:=n0_
        have BK199:=n1_
        have HB:=n2_
        clear n0_ n1_ n2_
        have n0_:=aK (blk_drew BK197.out)
        have n1_:=aK (blk_drew BK199.out)
        have n2_:=aK (below_drew1 HB.out)
        clear BK197
        clear BK199
        clear HB
        have BK197:=n0_
        have BK199:=n1_
        have HB:=n2_
        clear n0_ n1_ n2_
        refine start_ (n:=13) (S:=fun w'=>w'.cell? ⟨gb199,0,none⟩=some (.int .i64 ((rd_T47 l0 x17_1).f0))∧w'.cell? ⟨gb199,1,none⟩=some (.int .i64 ((rd_T47 l0 x17_1).f1))∧w'.cell? ⟨gb197,0,none⟩=some (.int .i64 a1_0)∧w'.cell? ⟨gb197,1,none⟩=some (.int .i64 a1_1)) (ds:=[]) #[false,false,false,false,false,false,false,false,false,false,false,false,false] (by kernel_rfl) rfl rfl ⟨(blk_cell BK199.out 0).trans rfl,(blk_cell BK199.out 1).trans rfl,(blk_cell BK197.out 0).trans rfl,(blk_cell BK197.out 1).trans rfl⟩ (fun hHeld=>?_);refine with_tabW fleuronref17_counted.tab5 fleuronref17_counted.bits5 (fun HT_ HW_=>?_)
        generalize w23.drew=w24 at BK197 BK199 HB hHeld ⊢
        refine pure_ (i:=1) (N:=some 24) (v:=?_) (a':=?_) #[false,true,false,false,false,false,false,false,false,false,false,false,false] rfl rfl (any_of HT_.out (by kernel_rfl)) (fun _ _ _ h=>h) (Or.inl ⟨by rfl,?_⟩) ?_ ?_
        rotate_left
        ·intro w'
         go_simp
         with_reducible rfl
        rotate_left
        ·simp only [Act.put,lS,i64_w,i32_w]
         rfl
        refine pure_ (i:=2) (N:=some 25) (v:=?_) (a':=?_) #[false,true,true,false,false,false,false,false,false,false,false,false,false] rfl rfl (any_of HT_.out (by kernel_rfl)) (fun _ _ _ h=>h) (Or.inl ⟨by rfl,?_⟩) ?_ ?_
        rotate_left
        ·intro w'
         go_simp
         with_reducible rfl
        rotate_left
        ·simp only [Act.put,lS,i64_w,i32_w]
         rfl
        refine take_ (i:=0) (N:=some 23) (v:=?_) (a':=?_) #[true,true,true,false,false,false,false,false,false,false,false,false,false] rfl rfl (take_ofW HT_.out HW_.out (by kernel_rfl)) (fun _ _ _ h=>h) (Or.inl ⟨by rfl,?_⟩) hHeld ?_ ?_
        rotate_left
        ·rintro w' ⟨s0,s1,s2,s3⟩
         go_simp
         with_reducible rfl
        rotate_left
        ·simp only [Act.put,lS,i64_w,i32_w]
         rfl
        refine take_ (i:=4) (N:=some 27) (v:=?_) (a':=?_) #[true,true,true,false,true,false,false,false,false,false,false,false,false] rfl rfl (take_ofW HT_.out HW_.out (by kernel_rfl)) (fun _ _ _ h=>h) (Or.inl ⟨by rfl,?_⟩) hHeld ?_ ?_
        rotate_left
        ·rintro w' ⟨s0,s1,s2,s3⟩
         go_simp
         with_reducible rfl
        rotate_left
        ·simp only [Act.put,lS,i64_w,i32_w]
         rfl
        refine one_ (i:=3) (N:=some 26) #[true,true,true,true,true,false,false,false,false,false,false,false,false] rfl rfl (one_of HT_.out (by kernel_rfl)) (by decide) (fun K hK=>?_)
        refine goes_ Tryz.func124 (by kernel_rfl) rfl #[.slice (some ad198) l0.length c0,.int .i64 x17_1] (by rfl) rfl rfl (by (try simp only [List.map_toArray,List.map_cons,List.map_nil]);first|done|rfl|(simp only [List.length_drop,List.length_take];rfl)) ?_
        with_reducible refine (fleuronref17_next.calls _ _ l0 x17_1 t200 t201 _ ?side1 ?side2 A8.out).mono ?_
        (case side1=>repeat (first|exact (Kd.C_below HR0.out HB.out)|(with_reducible refine Kd.C_alloc ?_ _)|(with_reducible refine Kd.C_drewN ?_ _)|(with_reducible refine Kd.C_drew ?_)))
        (case side2=>exact HC0.out)
        rintro e w25 ⟨rfl,hb⟩
        refine ⟨_,rfl,?_⟩
        have n0_:=aK (blk_below (g:=gb197) (o:=.cells #[.int .i64 a1_0,.int .i64 a1_1] 47 (0,0)) (by (with_reducible repeat (first|refine blk_drewN ?_ _|refine blk_drew ?_|refine blk_alloc ?_ _));exact BK197.out) hb)
        have n1_:=aK (blk_below (g:=gb199) (o:=.cells #[.int .i64 ((rd_T47 l0 x17_1).f0),.int .i64 ((rd_T47 l0 x17_1).f1)] 47 (0,0)) (by (with_reducible repeat (first|refine blk_drewN ?_ _|refine blk_drew ?_|refine blk_alloc ?_ _));exact BK199.out) hb)
        have n2_:=aK (below_step (by repeat (first|(with_reducible first|exact HB.out|apply below_alloc|apply pw_below_drewN|apply below_drew1|refine below_set ?_ GE197.out|refine below_set ?_ GE199.out)|exact HB.out)) hb)
        clear BK197
        clear BK199
        clear HB
        have BK197:=n0_
        have BK199:=n1_
        have HB:=n2_
        clear n0_ n1_ n2_
        (try clear hb)
        (try clear hb2)
        (try clear hk)
        (try clear hi)
        refine hK.out _ _ ⟨(blk_cell BK199.out 0).trans rfl,(blk_cell BK199.out 1).trans rfl,(blk_cell BK197.out 0).trans rfl,(blk_cell BK197.out 1).trans rfl⟩ (fun hHeld=>?_)
        clear hK K
        refine norm_ (a':=?_) ?_ ?_
        rotate_left
        ·show Act.put _ (some 26) _=_
         simp only [Act.put,lS,i64_w,i32_w]
         rfl
        refine one_ (i:=5) (N:=some 28) #[true,true,true,true,true,true,false,false,false,false,false,false,false] rfl rfl (one_of HT_.out (by kernel_rfl)) (by decide) (fun K hK=>?_)
        refine goes_ Tryz.func123 (by kernel_rfl) rfl #[.agg #[.int .i64 ((rd_T47 l0 x17_1).f0),.int .i64 ((rd_T47 l0 x17_1).f1)],.agg #[.int .i64 t200,.int .i64 t201],.agg #[.int .i64 a1_0,.int .i64 a1_1]] (by rfl) rfl rfl (by (try simp only [List.map_toArray,List.map_cons,List.map_nil]);first|done|rfl|(simp only [List.length_drop,List.length_take];rfl)) ?_
        with_reducible refine (fleuronref17_crossing.calls k1 ((rd_T47 l0 x17_1).f0) ((rd_T47 l0 x17_1).f1) t200 t201 a1_0 a1_1 t202 t203 t204 _ A9.out).mono ?_
        rintro e w26 ⟨rfl,hb⟩
        refine ⟨_,rfl,?_⟩
        have n0_:=aK (blk_below (g:=gb197) (o:=.cells #[.int .i64 a1_0,.int .i64 a1_1] 47 (0,0)) (by (with_reducible repeat (first|refine blk_drewN ?_ _|refine blk_drew ?_|refine blk_alloc ?_ _));exact BK197.out) hb)
        have n1_:=aK (blk_below (g:=gb199) (o:=.cells #[.int .i64 ((rd_T47 l0 x17_1).f0),.int .i64 ((rd_T47 l0 x17_1).f1)] 47 (0,0)) (by (with_reducible repeat (first|refine blk_drewN ?_ _|refine blk_drew ?_|refine blk_alloc ?_ _));exact BK199.out) hb)
        have n2_:=aK (below_step (by repeat (first|(with_reducible first|exact HB.out|apply below_alloc|apply pw_below_drewN|apply below_drew1|refine below_set ?_ GE197.out|refine below_set ?_ GE199.out)|exact HB.out)) hb)
        clear BK197
        clear BK199
        clear HB
        have BK197:=n0_
        have BK199:=n1_
        have HB:=n2_
        clear n0_ n1_ n2_
        (try clear hb)
        (try clear hb2)
        (try clear hk)
        (try clear hi)
        refine hK.out _ _ ⟨(blk_cell BK199.out 0).trans rfl,(blk_cell BK199.out 1).trans rfl,(blk_cell BK197.out 0).trans rfl,(blk_cell BK197.out 1).trans rfl⟩ (fun hHeld=>?_)
        clear hK K
        refine norm_ (a':=?_) ?_ ?_
        rotate_left
        ·show Act.put _ (some 28) _=_
         simp only [Act.put,lS,i64_w,i32_w]
         rfl
        refine pure_ (i:=6) (N:=some 22) (v:=?_) (a':=?_) #[true,true,true,true,true,true,true,false,false,false,false,false,false] rfl rfl (any_of HT_.out (by kernel_rfl)) (fun _ _ _ h=>h) (Or.inl ⟨by rfl,?_⟩) ?_ ?_
        rotate_left
        ·intro w'
         go_simp
         with_reducible rfl
        rotate_left
        ·simp only [Act.put,lS,i64_w,i32_w]
         rfl
        refine pure_ (i:=7) (N:=some 29) (v:=?_) (a':=?_) #[true,true,true,true,true,true,true,true,false,false,false,false,false] rfl rfl (any_of HT_.out (by kernel_rfl)) (fun _ _ _ h=>h) (Or.inl ⟨by rfl,?_⟩) ?_ ?_
        rotate_left
        ·intro w'
         go_simp
         with_reducible rfl
        rotate_left
        ·simp only [Act.put,lS,i64_w,i32_w]
         rfl
        refine pure_ (i:=8) (N:=some 30) (v:=?_) (a':=?_) #[true,true,true,true,true,true,true,true,true,false,false,false,false] rfl rfl (any_of HT_.out (by kernel_rfl)) (fun _ _ _ h=>h) (Or.inl ⟨by rfl,?_⟩) ?_ ?_
        rotate_left
        ·intro w'
         go_simp
         with_reducible rfl
        rotate_left
        ·simp only [Act.put,lS,i64_w,i32_w]
         rfl
        refine pure_ (i:=9) (N:=some 31) (v:=?_) (a':=?_) #[true,true,true,true,true,true,true,true,true,true,false,false,false] rfl rfl (any_of HT_.out (by kernel_rfl)) (fun _ _ _ h=>h) (Or.inl ⟨by rfl,?_⟩) ?_ ?_
        rotate_left
        ·intro w'
         go_simp
         with_reducible rfl
        rotate_left
        ·simp only [Act.put,lS,i64_w,i32_w]
         rfl
        refine pure_ (i:=10) (N:=some 12) (v:=?_) (a':=?_) #[true,true,true,true,true,true,true,true,true,true,true,false,false] rfl rfl (any_of HT_.out (by kernel_rfl)) (fun _ _ _ h=>h) (Or.inl ⟨by rfl,?_⟩) ?_ ?_
        rotate_left
        ·intro w'
         go_simp
         with_reducible rfl
        rotate_left
        ·simp only [Act.put,lS,i64_w,i32_w]
         rfl
        refine pure_ (i:=11) (N:=some 13) (v:=?_) (a':=?_) #[true,true,true,true,true,true,true,true,true,true,true,true,false] rfl rfl (any_of HT_.out (by kernel_rfl)) (fun _ _ _ h=>h) (Or.inl ⟨by rfl,?_⟩) ?_ ?_
        rotate_left
        ·intro w'
         go_simp
         with_reducible rfl
        rotate_left
        ·simp only [Act.put,lS,i64_w,i32_w]
         rfl
        refine pure_ (i:=12) (N:=some 14) (v:=?_) (a':=?_) #[true,true,true,true,true,true,true,true,true,true,true,true,true] rfl rfl (any_of HT_.out (by kernel_rfl)) (fun _ _ _ h=>h) (Or.inl ⟨by rfl,?_⟩) ?_ ?_
        rotate_left
        ·intro w'
         go_simp
         with_reducible rfl
        rotate_left
        ·simp only [Act.put,lS,i64_w,i32_w]
         rfl
        refine done_ (done_of HT_.out (by kernel_rfl)) ?_
        have hcz27_0:w26.cell? ⟨gb197,0,none⟩=some (.int .i64 a1_0):=(blk_cell BK197.out 0).trans rfl
        have hcz27_1:w26.cell? ⟨gb197,1,none⟩=some (.int .i64 a1_1):=(blk_cell BK197.out 1).trans rfl
        have hfz27_0:=blk_frozen BK197.out 0
        have hfz27_1:=blk_frozen BK197.out 1
        try go_wp2_with (go_at_call 125;(with_reducible refine (fleuronref17_sign.calls (wrap64 (t203-(wrap64 (a1_0*t204)))) t205 _ A18.out).mono ?_);rintro e w' ⟨rfl,⟨nd,rfl⟩⟩)
        go_roundg k1
        case measure=>have:=HK1.out;omega
        case rel=>exact ⟨(wrap64 (x8_1+t202)),(wrap64 (x9_1+1)),(wrap64 (x17_1+1)),(by first|rfl|(simp;done)|(simp [*];done)),(by first|rfl|(simp;done)|(simp [*];done)),(by first|rfl|(simp;done)|(simp [*];done)),H',⟨by have:=HK1.out;omega⟩,⟨by (with_reducible repeat (first|refine blk_drewN ?_ _|refine blk_drew ?_|refine blk_alloc ?_ _));exact BK197.out⟩,⟨by repeat (first|(with_reducible first|exact HB.out|apply below_alloc|apply pw_below_drewN|apply below_drew1|refine below_set ?_ GE197.out|refine below_set ?_ GE199.out)|exact HB.out)⟩⟩
       ·rw [if_neg c19] at H
        have c19b0:(t205 == a2)=false:=beq_eq_false_iff_ne.mpr c19
        have c19b1:(t205 != a2)=true:=bne_iff_ne.mpr c19
        have H':=aK H
        clear H
        have p198:0≤(x17_1:Int):=of_decide_eq_true (by first|(with_reducible assumption)|assumption)
        have q198:x17_1<(l0.length:Int):=of_decide_eq_true (by first|(with_reducible assumption)|assumption)
        obtain ⟨ad198,e198,hx198_0,hx198_1⟩:=at_T47 HR0.out x17_1 p198 q198
        cases e198
        replace hx198_0:=(HB.out.cell (World.block_lt_of_cell? w _ hx198_0)).trans hx198_0
        replace hx198_1:=(HB.out.cell (World.block_lt_of_cell? w _ hx198_1)).trans hx198_1
        replace p198:=eq_true p198
        replace q198:=eq_true q198
        try go_wp2_with ((with_reducible refine gate_dst (N:=11) rfl ?_);refine box_event ?hg (N:=11) ?hd (cs:=#[.int .i64 0,.int .i64 0]) (t:=47) ?hr ?_;(case hd=>rfl);(case hg=>rfl);(case hr=>first|(go_simp;done)|(go_simp;rfl));intro gb199 hg w28 hbox hb;have n0_:=aK (blk_below (g:=gb197) (o:=.cells #[.int .i64 a1_0,.int .i64 a1_1] 47 (0,0)) (by (with_reducible repeat (first|refine blk_drewN ?_ _|refine blk_drew ?_|refine blk_alloc ?_ _));exact BK197.out) hb);have n1_:=aK (below_step (by repeat (first|(with_reducible first|exact HB.out|apply below_alloc|apply pw_below_drewN|apply below_drew1|refine below_set ?_ GE197.out)|exact HB.out)) hb);have n2_:=aK (hbox);have n3_:=aK ((by rw [hg];exact (below_size (by repeat (first|(with_reducible first|exact HB.out|apply below_alloc|apply pw_below_drewN|apply below_drew1|refine below_set ?_ GE197.out)|exact HB.out))):w.heap.size≤gb199));have n4_:=n3_;have n5_:=aK ((by rw [hg];exact Nat.ne_of_lt (blk_lt (g:=gb197) (o:=.cells #[.int .i64 a1_0,.int .i64 a1_1] 47 (0,0)) (by (with_reducible repeat (first|refine blk_drewN ?_ _|refine blk_drew ?_|refine blk_alloc ?_ _));exact BK197.out)):gb197≠gb199));have n6_:=aK (Ne.symm n5_.out);clear BK197;clear HB;have BK197:=n0_;have HB:=n1_;have BK199:=n2_;have GW199:=n3_;have GE199:=n4_;have NB197_199:=n5_;have NB199_197:=n6_;clear n0_ n1_ n2_ n3_ n4_ n5_ n6_;clear hb hbox hg;have hnb29:=NB199_197.out;have hnc29:=NB197_199.out;have hcz30_0:w28.cell? ⟨gb199,0,none⟩=some (.int .i64 0):=(blk_cell BK199.out 0).trans rfl;have hcz30_1:w28.cell? ⟨gb199,1,none⟩=some (.int .i64 0):=(blk_cell BK199.out 1).trans rfl;have hfz30_0:=blk_frozen BK199.out 0;have hfz30_1:=blk_frozen BK199.out 1)
        have n0_:Aside0 (((w28.setCell ⟨gb199,0,none⟩ (.int .i64 ((rd_T47 l0 x17_1).f0))).setCell ⟨gb199,1,none⟩ (.int .i64 ((rd_T47 l0 x17_1).f1))).heap[gb197]?=some (.cells #[.int .i64 a1_0,.int .i64 a1_1] 47 (0,0))):=⟨by (with_reducible repeat (first|refine blk_drewN ?_ _|refine blk_drew ?_|refine blk_alloc ?_ _));refine blk_far ?_ NB197_199.out _;(with_reducible repeat (first|refine blk_drewN ?_ _|refine blk_drew ?_|refine blk_alloc ?_ _));refine blk_far ?_ NB197_199.out _;(with_reducible repeat (first|refine blk_drewN ?_ _|refine blk_drew ?_|refine blk_alloc ?_ _));exact BK197.out⟩
        have n1_:Aside0 (((w28.setCell ⟨gb199,0,none⟩ (.int .i64 ((rd_T47 l0 x17_1).f0))).setCell ⟨gb199,1,none⟩ (.int .i64 ((rd_T47 l0 x17_1).f1))).heap[gb199]?=some (.cells #[.int .i64 ((rd_T47 l0 x17_1).f0),.int .i64 ((rd_T47 l0 x17_1).f1)] 47 (0,0))):=⟨by (with_reducible repeat (first|refine blk_drewN ?_ _|refine blk_drew ?_|refine blk_alloc ?_ _));refine blk_put (cs:=#[.int .i64 ((rd_T47 l0 x17_1).f0),.int .i64 0]) ?_ 1 _ rfl;(with_reducible repeat (first|refine blk_drewN ?_ _|refine blk_drew ?_|refine blk_alloc ?_ _));refine blk_put (cs:=#[.int .i64 0,.int .i64 0]) ?_ 0 _ rfl;(with_reducible repeat (first|refine blk_drewN ?_ _|refine blk_drew ?_|refine blk_alloc ?_ _));exact BK199.out⟩
        have n2_:Aside0 (Below w.heap.size w ((w28.setCell ⟨gb199,0,none⟩ (.int .i64 ((rd_T47 l0 x17_1).f0))).setCell ⟨gb199,1,none⟩ (.int .i64 ((rd_T47 l0 x17_1).f1)))):=⟨by repeat (first|(with_reducible first|exact HB.out|apply below_alloc|apply pw_below_drewN|apply below_drew1|refine below_set ?_ GE197.out|refine below_set ?_ GE199.out)|exact HB.out)⟩
        (try clear BK197)
        (try clear BK199)
        (try clear HB)
        generalize ((w28.setCell ⟨gb199,0,none⟩ (.int .i64 ((rd_T47 l0 x17_1).f0))).setCell ⟨gb199,1,none⟩ (.int .i64 ((rd_T47 l0 x17_1).f1)))=w31 at n0_ n1_ n2_ ⊢
        have BK197:=n0_
        have BK199:=n1_
        have HB:=n2_
        clear n0_ n1_ n2_
        have n0_:=aK (blk_drew BK197.out)
        have n1_:=aK (blk_drew BK199.out)
        have n2_:=aK (below_drew1 HB.out)
        clear BK197
        clear BK199
        clear HB
        have BK197:=n0_
        have BK199:=n1_
        have HB:=n2_
        clear n0_ n1_ n2_
        refine start_ (n:=13) (S:=fun w'=>w'.cell? ⟨gb199,0,none⟩=some (.int .i64 ((rd_T47 l0 x17_1).f0))∧w'.cell? ⟨gb199,1,none⟩=some (.int .i64 ((rd_T47 l0 x17_1).f1))∧w'.cell? ⟨gb197,0,none⟩=some (.int .i64 a1_0)∧w'.cell? ⟨gb197,1,none⟩=some (.int .i64 a1_1)) (ds:=[]) #[false,false,false,false,false,false,false,false,false,false,false,false,false] (by kernel_rfl) rfl rfl ⟨(blk_cell BK199.out 0).trans rfl,(blk_cell BK199.out 1).trans rfl,(blk_cell BK197.out 0).trans rfl,(blk_cell BK197.out 1).trans rfl⟩ (fun hHeld=>?_);refine with_tabW fleuronref17_counted.tab5 fleuronref17_counted.bits5 (fun HT_ HW_=>?_)
        generalize w31.drew=w32 at BK197 BK199 HB hHeld ⊢
        refine pure_ (i:=1) (N:=some 24) (v:=?_) (a':=?_) #[false,true,false,false,false,false,false,false,false,false,false,false,false] rfl rfl (any_of HT_.out (by kernel_rfl)) (fun _ _ _ h=>h) (Or.inl ⟨by rfl,?_⟩) ?_ ?_
        rotate_left
        ·intro w'
         go_simp
         with_reducible rfl
        rotate_left
        ·simp only [Act.put,lS,i64_w,i32_w]
         rfl
        refine pure_ (i:=2) (N:=some 25) (v:=?_) (a':=?_) #[false,true,true,false,false,false,false,false,false,false,false,false,false] rfl rfl (any_of HT_.out (by kernel_rfl)) (fun _ _ _ h=>h) (Or.inl ⟨by rfl,?_⟩) ?_ ?_
        rotate_left
        ·intro w'
         go_simp
         with_reducible rfl
        rotate_left
        ·simp only [Act.put,lS,i64_w,i32_w]
         rfl
        refine take_ (i:=0) (N:=some 23) (v:=?_) (a':=?_) #[true,true,true,false,false,false,false,false,false,false,false,false,false] rfl rfl (take_ofW HT_.out HW_.out (by kernel_rfl)) (fun _ _ _ h=>h) (Or.inl ⟨by rfl,?_⟩) hHeld ?_ ?_
        rotate_left
        ·rintro w' ⟨s0,s1,s2,s3⟩
         go_simp
         with_reducible rfl
        rotate_left
        ·simp only [Act.put,lS,i64_w,i32_w]
         rfl
        refine take_ (i:=4) (N:=some 27) (v:=?_) (a':=?_) #[true,true,true,false,true,false,false,false,false,false,false,false,false] rfl rfl (take_ofW HT_.out HW_.out (by kernel_rfl)) (fun _ _ _ h=>h) (Or.inl ⟨by rfl,?_⟩) hHeld ?_ ?_
        rotate_left
        ·rintro w' ⟨s0,s1,s2,s3⟩
         go_simp
         with_reducible rfl
        rotate_left
        ·simp only [Act.put,lS,i64_w,i32_w]
         rfl
        refine one_ (i:=3) (N:=some 26) #[true,true,true,true,true,false,false,false,false,false,false,false,false] rfl rfl (one_of HT_.out (by kernel_rfl)) (by decide) (fun K hK=>?_)
        refine goes_ Tryz.func124 (by kernel_rfl) rfl #[.slice (some ad198) l0.length c0,.int .i64 x17_1] (by rfl) rfl rfl (by (try simp only [List.map_toArray,List.map_cons,List.map_nil]);first|done|rfl|(simp only [List.length_drop,List.length_take];rfl)) ?_
        with_reducible refine (fleuronref17_next.calls _ _ l0 x17_1 t200 t201 _ ?side1 ?side2 A8.out).mono ?_
        (case side1=>repeat (first|exact (Kd.C_below HR0.out HB.out)|(with_reducible refine Kd.C_alloc ?_ _)|(with_reducible refine Kd.C_drewN ?_ _)|(with_reducible refine Kd.C_drew ?_)))
        (case side2=>exact HC0.out)
        rintro e w33 ⟨rfl,hb⟩
        refine ⟨_,rfl,?_⟩
        have n0_:=aK (blk_below (g:=gb197) (o:=.cells #[.int .i64 a1_0,.int .i64 a1_1] 47 (0,0)) (by (with_reducible repeat (first|refine blk_drewN ?_ _|refine blk_drew ?_|refine blk_alloc ?_ _));exact BK197.out) hb)
        have n1_:=aK (blk_below (g:=gb199) (o:=.cells #[.int .i64 ((rd_T47 l0 x17_1).f0),.int .i64 ((rd_T47 l0 x17_1).f1)] 47 (0,0)) (by (with_reducible repeat (first|refine blk_drewN ?_ _|refine blk_drew ?_|refine blk_alloc ?_ _));exact BK199.out) hb)
        have n2_:=aK (below_step (by repeat (first|(with_reducible first|exact HB.out|apply below_alloc|apply pw_below_drewN|apply below_drew1|refine below_set ?_ GE197.out|refine below_set ?_ GE199.out)|exact HB.out)) hb)
        clear BK197
        clear BK199
        clear HB
        have BK197:=n0_
        have BK199:=n1_
        have HB:=n2_
        clear n0_ n1_ n2_
        (try clear hb)
        (try clear hb2)
        (try clear hk)
        (try clear hi)
        refine hK.out _ _ ⟨(blk_cell BK199.out 0).trans rfl,(blk_cell BK199.out 1).trans rfl,(blk_cell BK197.out 0).trans rfl,(blk_cell BK197.out 1).trans rfl⟩ (fun hHeld=>?_)
        clear hK K
        refine norm_ (a':=?_) ?_ ?_
        rotate_left
        ·show Act.put _ (some 26) _=_
         simp only [Act.put,lS,i64_w,i32_w]
         rfl
        refine one_ (i:=5) (N:=some 28) #[true,true,true,true,true,true,false,false,false,false,false,false,false] rfl rfl (one_of HT_.out (by kernel_rfl)) (by decide) (fun K hK=>?_)
        refine goes_ Tryz.func123 (by kernel_rfl) rfl #[.agg #[.int .i64 ((rd_T47 l0 x17_1).f0),.int .i64 ((rd_T47 l0 x17_1).f1)],.agg #[.int .i64 t200,.int .i64 t201],.agg #[.int .i64 a1_0,.int .i64 a1_1]] (by rfl) rfl rfl (by (try simp only [List.map_toArray,List.map_cons,List.map_nil]);first|done|rfl|(simp only [List.length_drop,List.length_take];rfl)) ?_
        with_reducible refine (fleuronref17_crossing.calls k1 ((rd_T47 l0 x17_1).f0) ((rd_T47 l0 x17_1).f1) t200 t201 a1_0 a1_1 t202 t203 t204 _ A9.out).mono ?_
        rintro e w34 ⟨rfl,hb⟩
        refine ⟨_,rfl,?_⟩
        have n0_:=aK (blk_below (g:=gb197) (o:=.cells #[.int .i64 a1_0,.int .i64 a1_1] 47 (0,0)) (by (with_reducible repeat (first|refine blk_drewN ?_ _|refine blk_drew ?_|refine blk_alloc ?_ _));exact BK197.out) hb)
        have n1_:=aK (blk_below (g:=gb199) (o:=.cells #[.int .i64 ((rd_T47 l0 x17_1).f0),.int .i64 ((rd_T47 l0 x17_1).f1)] 47 (0,0)) (by (with_reducible repeat (first|refine blk_drewN ?_ _|refine blk_drew ?_|refine blk_alloc ?_ _));exact BK199.out) hb)
        have n2_:=aK (below_step (by repeat (first|(with_reducible first|exact HB.out|apply below_alloc|apply pw_below_drewN|apply below_drew1|refine below_set ?_ GE197.out|refine below_set ?_ GE199.out)|exact HB.out)) hb)
        clear BK197
        clear BK199
        clear HB
        have BK197:=n0_
        have BK199:=n1_
        have HB:=n2_
        clear n0_ n1_ n2_
        (try clear hb)
        (try clear hb2)
        (try clear hk)
        (try clear hi)
        refine hK.out _ _ ⟨(blk_cell BK199.out 0).trans rfl,(blk_cell BK199.out 1).trans rfl,(blk_cell BK197.out 0).trans rfl,(blk_cell BK197.out 1).trans rfl⟩ (fun hHeld=>?_)
        clear hK K
        refine norm_ (a':=?_) ?_ ?_
        rotate_left
        ·show Act.put _ (some 28) _=_
         simp only [Act.put,lS,i64_w,i32_w]
         rfl
        refine pure_ (i:=6) (N:=some 22) (v:=?_) (a':=?_) #[true,true,true,true,true,true,true,false,false,false,false,false,false] rfl rfl (any_of HT_.out (by kernel_rfl)) (fun _ _ _ h=>h) (Or.inl ⟨by rfl,?_⟩) ?_ ?_
        rotate_left
        ·intro w'
         go_simp
         with_reducible rfl
        rotate_left
        ·simp only [Act.put,lS,i64_w,i32_w]
         rfl
        refine pure_ (i:=7) (N:=some 29) (v:=?_) (a':=?_) #[true,true,true,true,true,true,true,true,false,false,false,false,false] rfl rfl (any_of HT_.out (by kernel_rfl)) (fun _ _ _ h=>h) (Or.inl ⟨by rfl,?_⟩) ?_ ?_
        rotate_left
        ·intro w'
         go_simp
         with_reducible rfl
        rotate_left
        ·simp only [Act.put,lS,i64_w,i32_w]
         rfl
        refine pure_ (i:=8) (N:=some 30) (v:=?_) (a':=?_) #[true,true,true,true,true,true,true,true,true,false,false,false,false] rfl rfl (any_of HT_.out (by kernel_rfl)) (fun _ _ _ h=>h) (Or.inl ⟨by rfl,?_⟩) ?_ ?_
        rotate_left
        ·intro w'
         go_simp
         with_reducible rfl
        rotate_left
        ·simp only [Act.put,lS,i64_w,i32_w]
         rfl
        refine pure_ (i:=9) (N:=some 31) (v:=?_) (a':=?_) #[true,true,true,true,true,true,true,true,true,true,false,false,false] rfl rfl (any_of HT_.out (by kernel_rfl)) (fun _ _ _ h=>h) (Or.inl ⟨by rfl,?_⟩) ?_ ?_
        rotate_left
        ·intro w'
         go_simp
         with_reducible rfl
        rotate_left
        ·simp only [Act.put,lS,i64_w,i32_w]
         rfl
        refine pure_ (i:=10) (N:=some 12) (v:=?_) (a':=?_) #[true,true,true,true,true,true,true,true,true,true,true,false,false] rfl rfl (any_of HT_.out (by kernel_rfl)) (fun _ _ _ h=>h) (Or.inl ⟨by rfl,?_⟩) ?_ ?_
        rotate_left
        ·intro w'
         go_simp
         with_reducible rfl
        rotate_left
        ·simp only [Act.put,lS,i64_w,i32_w]
         rfl
        refine pure_ (i:=11) (N:=some 13) (v:=?_) (a':=?_) #[true,true,true,true,true,true,true,true,true,true,true,true,false] rfl rfl (any_of HT_.out (by kernel_rfl)) (fun _ _ _ h=>h) (Or.inl ⟨by rfl,?_⟩) ?_ ?_
        rotate_left
        ·intro w'
         go_simp
         with_reducible rfl
        rotate_left
        ·simp only [Act.put,lS,i64_w,i32_w]
         rfl
        refine pure_ (i:=12) (N:=some 14) (v:=?_) (a':=?_) #[true,true,true,true,true,true,true,true,true,true,true,true,true] rfl rfl (any_of HT_.out (by kernel_rfl)) (fun _ _ _ h=>h) (Or.inl ⟨by rfl,?_⟩) ?_ ?_
        rotate_left
        ·intro w'
         go_simp
         with_reducible rfl
        rotate_left
        ·simp only [Act.put,lS,i64_w,i32_w]
         rfl
        refine done_ (done_of HT_.out (by kernel_rfl)) ?_
        have hcz35_0:w34.cell? ⟨gb197,0,none⟩=some (.int .i64 a1_0):=(blk_cell BK197.out 0).trans rfl
        have hcz35_1:w34.cell? ⟨gb197,1,none⟩=some (.int .i64 a1_1):=(blk_cell BK197.out 1).trans rfl
        have hfz35_0:=blk_frozen BK197.out 0
        have hfz35_1:=blk_frozen BK197.out 1
        try go_wp2_with (go_at_call 125;(with_reducible refine (fleuronref17_sign.calls (wrap64 (t203-(wrap64 (a1_0*t204)))) t205 _ A18.out).mono ?_);rintro e w' ⟨rfl,⟨nd,rfl⟩⟩)
        go_roundg k1
        case measure=>have:=HK1.out;omega
        case rel=>exact ⟨(x8_1),(x9_1),(wrap64 (x17_1+1)),(by first|rfl|(simp;done)|(simp [*];done)),(by first|rfl|(simp;done)|(simp [*];done)),(by first|rfl|(simp;done)|(simp [*];done)),H',⟨by have:=HK1.out;omega⟩,⟨by (with_reducible repeat (first|refine blk_drewN ?_ _|refine blk_drew ?_|refine blk_alloc ?_ _));exact BK197.out⟩,⟨by repeat (first|(with_reducible first|exact HB.out|apply below_alloc|apply pw_below_drewN|apply below_drew1|refine below_set ?_ GE197.out|refine below_set ?_ GE199.out)|exact HB.out)⟩⟩
     ·rw [if_neg c7] at H
      exact absurd H (by simp)
    ·rw [if_neg c6] at H
     exact absurd H (by simp)
   ·rw [if_neg c5] at H
    have c5b0:decide (x17_1<(l0.length:Int))=false:=decide_eq_false c5
    clear c5
    simp only [Option.some.injEq,Prod.mk.injEq] at H
    obtain ⟨rfl,rfl⟩:=H
    go_wp2
    go_ret2
    exact ⟨by first|rfl|(simp [errW_none,errW_some] <;> rfl)|(simp [*,errW_none,errW_some] <;> rfl),by repeat (first|(with_reducible first|exact HB.out|apply below_alloc|apply pw_below_drewN|apply below_drew1|refine below_set ?_ GE197.out)|exact HB.out)⟩
def fleuronref17_Wind.f (k:Nat) (l0:List (S47)) (a1_0:Int) (a1_1:Int):Option (Int×Int):=(fleuronref17_counted.f k l0 a1_0 a1_1 1).bind fun bt207=>(some (bt207.1,bt207.2))
theorem fleuronref17_Wind.mono : ∀ a0 a1 a2 k,LeO (fleuronref17_Wind.f k a0 a1 a2) (fleuronref17_Wind.f (k+1) a0 a1 a2):=by
 intro a0 a1 a2 k
 unfold fleuronref17_Wind.f
 repeat' first
   | (with_reducible exact fleuronref17_counted.mono _ _ _ _ _)
   | (with_reducible exact LeO.refl _)
   | (with_reducible exact LeO.none _)
   | (with_reducible refine LeO.ite ?_ ?_)
   | (with_reducible refine LeO.bind ?_ (fun _=>?_))
   | exact fleuronref17_counted.mono _ _ _ _ _
   | exact LeO.none _
   | refine LeO.ite ?_ ?_
   | refine LeO.bind ?_ (fun _=>?_)
set_option maxHeartbeats 8000000 in
theorem fleuronref17_Wind.calls (k:Nat) (A0:Option Addr) (c0:Nat) (l0:List (S47)) (a1_0:Int) (a1_1:Int) (r1:Int) (r2:Int) (w:World) (hr0:Kd.C k47 w A0 l0.length l0) (hc0:l0.length≤c0) (h:fleuronref17_Wind.f k l0 a1_0 a1_1=some (r1,r2)) :
  Calls Tryz.prog 75 #[.slice A0 l0.length c0,.agg #[.int .i64 a1_0,.int .i64 a1_1]] w fun e w'=>e = .returned (.tuple #[.int .i64 r1,.int .i64 r2])∧Below w.heap.size w w':=by
 have hu47:=Tryz.underlying47
 have HR0:=aK hr0
 have HC0:=aK hc0
 clear hr0 hc0
 have HB:=aK (Below.refl w.heap.size w)
 have H:((fleuronref17_counted.f k l0 a1_0 a1_1 1).bind fun bt207=>(some (bt207.1,bt207.2)))=some (r1,r2):=h
 clear h
 replace H:=Option.bind_eq_some_iff.mp H
 obtain ⟨⟨t207,t208⟩,A30,H⟩:=H
 replace H:(some (t207,t208))=some (r1,r2):=H
 have A3:=aK A30
 clear A30
 simp only [Option.some.injEq,Prod.mk.injEq] at H
 obtain ⟨rfl,rfl⟩:=H
 go_enter Tryz.func75,Tryz.ntmps75
 go_wp2_with (first|((with_reducible refine gate_dst (N:=3) rfl ?_);refine box_event ?hg (N:=3) ?hd (cs:=#[.int .i64 a1_0,.int .i64 a1_1]) (t:=47) ?hr ?_;(case hd=>rfl);(case hg=>rfl);(case hr=>first|(go_simp;done)|(go_simp;rfl));intro gb206 hg w4 hbox hb;have n0_:=aK (below_step (by repeat (first|(with_reducible first|exact HB.out|apply below_alloc|apply pw_below_drewN|apply below_drew1)|exact HB.out)) hb);have n1_:=aK (hbox);have n2_:=aK ((by rw [hg];exact (below_size (by repeat (first|(with_reducible first|exact HB.out|apply below_alloc|apply pw_below_drewN|apply below_drew1)|exact HB.out))):w.heap.size≤gb206));have n3_:=n2_;clear HB;have HB:=n0_;have BK206:=n1_;have GW206:=n2_;have GE206:=n3_;clear n0_ n1_ n2_ n3_;clear hb hbox hg;have hcz5_0:w4.cell? ⟨gb206,0,none⟩=some (.int .i64 a1_0):=(blk_cell BK206.out 0).trans rfl;have hcz5_1:w4.cell? ⟨gb206,1,none⟩=some (.int .i64 a1_1):=(blk_cell BK206.out 1).trans rfl;have hfz5_0:=blk_frozen BK206.out 0;have hfz5_1:=blk_frozen BK206.out 1)|((with_reducible refine gate_callee (f:=101) rfl ?_);refine goesL_ (some 8) rfl rfl Tryz.func101 (by kernel_rfl) rfl #[.slice A0 l0.length c0,.agg #[.int .i64 a1_0,.int .i64 a1_1],.int .i64 1] rfl (by (try simp only [List.map_toArray,List.map_cons,List.map_nil]);first|done|rfl|(simp only [List.length_drop,List.length_take];rfl)) ?_;(with_reducible refine (fleuronref17_counted.calls k _ _ l0 a1_0 a1_1 1 t207 t208 _ ?side1 ?side2 A3.out).mono ?_);(case side1=>repeat (first|exact (Kd.C_below HR0.out HB.out)|(with_reducible refine Kd.C_alloc ?_ _)|(with_reducible refine Kd.C_drewN ?_ _)|(with_reducible refine Kd.C_drew ?_)));(case side2=>exact HC0.out);rintro e w6 ⟨rfl,hb⟩;refine ⟨_,rfl,?_⟩;have n0_:=aK (blk_below (g:=gb206) (o:=.cells #[.int .i64 a1_0,.int .i64 a1_1] 47 (0,0)) (by (with_reducible repeat (first|refine blk_drewN ?_ _|refine blk_drew ?_|refine blk_alloc ?_ _));exact BK206.out) hb);have n1_:=aK (below_step (by repeat (first|(with_reducible first|exact HB.out|apply below_alloc|apply pw_below_drewN|apply below_drew1|refine below_set ?_ GE206.out)|exact HB.out)) hb);clear BK206;clear HB;have BK206:=n0_;have HB:=n1_;clear n0_ n1_;(try clear hb);(try clear hb2);(try clear hk);(try clear hi)))
 go_ret2
 exact ⟨by first|rfl|(simp [errW_none,errW_some] <;> rfl)|(simp [*,errW_none,errW_some] <;> rfl),by repeat (first|(with_reducible first|exact HB.out|apply below_alloc|apply pw_below_drewN|apply below_drew1|refine below_set ?_ GE206.out)|exact HB.out)⟩
def fleuronref17_Within.l0:Nat→Bool→Int→Int→List (List (S47))→Int→Int→Int→Int→Option (Bool)
 | 0,_,_,_,_,_,_,_,_=>none
 | k+1,x1,x7,x8,x13,x14,x15,x210000,x210001=>if x15<x14 then (if 0≤x15 then (if x15<(x13.length:Int) then ((fleuronref17_Wind.f k (rd_L2 x13 x15) x210000 x210001).bind fun bt211=>(fleuronref17_Within.l0 k x1 (wrap64 (x7+bt211.1)) (wrap64 (x8+bt211.2)) x13 x14 (wrap64 (x15+1)) x210000 x210001)) else (none)) else (none)) else (if x1=true then (some ((Int.tmod x8 2) == 1)) else (if x7=0 then (some false) else (some true)))
def fleuronref17_Within.f (k:Nat) (l0:List (List (S47))) (a1:Bool) (a2_0:Int) (a2_1:Int):Option (Bool):=fleuronref17_Within.l0 k a1 0 0 l0 (l0.length:Int) 0 a2_0 a2_1
theorem fleuronref17_Within.mono_l : ∀ k,(∀ y0 y1 y2 y3 y4 y5 y6 y7,LeO (fleuronref17_Within.l0 k y0 y1 y2 y3 y4 y5 y6 y7) (fleuronref17_Within.l0 (k+1) y0 y1 y2 y3 y4 y5 y6 y7))
 | 0=>fun _ _ _ _ _ _ _ _ r h=>by simp [fleuronref17_Within.l0] at h
 | k+1=>by
  have ih0:=fleuronref17_Within.mono_l k
  ·intro y0 y1 y2 y3 y4 y5 y6 y7
   unfold fleuronref17_Within.l0
   repeat' first
   | (with_reducible exact ih0 _ _ _ _ _ _ _ _)
   | (with_reducible exact fleuronref17_Wind.mono _ _ _ _)
   | (with_reducible exact LeO.refl _)
   | (with_reducible exact LeO.none _)
   | (with_reducible refine LeO.ite ?_ ?_)
   | (with_reducible refine LeO.bind ?_ (fun _=>?_))
   | exact ih0 _ _ _ _ _ _ _ _
   | exact fleuronref17_Wind.mono _ _ _ _
   | exact LeO.none _
   | refine LeO.ite ?_ ?_
   | refine LeO.bind ?_ (fun _=>?_)
theorem fleuronref17_Within.mono : ∀ a0 a1 a2 a3 k,LeO (fleuronref17_Within.f k a0 a1 a2 a3) (fleuronref17_Within.f (k+1) a0 a1 a2 a3):=by
 intro a0 a1 a2 a3 k
 have ih0:=fleuronref17_Within.mono_l k
 unfold fleuronref17_Within.f
 repeat' first
   | (with_reducible exact ih0 _ _ _ _ _ _ _ _)
   | (with_reducible exact fleuronref17_Wind.mono _ _ _ _)
   | (with_reducible exact LeO.refl _)
   | (with_reducible exact LeO.none _)
   | (with_reducible refine LeO.ite ?_ ?_)
   | (with_reducible refine LeO.bind ?_ (fun _=>?_))
   | exact ih0 _ _ _ _ _ _ _ _
   | exact fleuronref17_Wind.mono _ _ _ _
   | exact LeO.none _
   | refine LeO.ite ?_ ?_
   | refine LeO.bind ?_ (fun _=>?_)
set_option maxHeartbeats 8000000 in
theorem fleuronref17_Within.calls (k:Nat) (A0:Option Addr) (c0:Nat) (l0:List (List (S47))) (a1:Bool) (a2_0:Int) (a2_1:Int) (r:Bool) (w:World) (hr0:Kd.C (Kd.slice 47 k47) w A0 l0.length l0) (hc0:l0.length≤c0) (h:fleuronref17_Within.f k l0 a1 a2_0 a2_1=some r) :
  Calls Tryz.prog 37 #[.slice A0 l0.length c0,.bool a1,.agg #[.int .i64 a2_0,.int .i64 a2_1]] w fun e w'=>e = .returned (.bool r)∧Below w.heap.size w w':=by
 have hu47:=Tryz.underlying47
 have HR0:=aK hr0
 have HC0:=aK hc0
 clear hr0 hc0
 have HB:=aK (Below.refl w.heap.size w)
 have H:(fleuronref17_Within.l0 k a1 0 0 l0 (l0.length:Int) 0 a2_0 a2_1)=some r:=h
 clear h
 have H':=aK H
 clear H
 go_enter Tryz.func37,Tryz.ntmps37
 go_wp2_with ((with_reducible refine gate_dst (N:=5) rfl ?_);refine box_event ?hg (N:=5) ?hd (cs:=#[.int .i64 a2_0,.int .i64 a2_1]) (t:=47) ?hr ?_;(case hd=>rfl);(case hg=>rfl);(case hr=>first|(go_simp;done)|(go_simp;rfl));intro gb209 hg w4 hbox hb;have n0_:=aK (below_step (by repeat (first|(with_reducible first|exact HB.out|apply below_alloc|apply pw_below_drewN|apply below_drew1)|exact HB.out)) hb);have n1_:=aK (hbox);have n2_:=aK ((by rw [hg];exact (below_size (by repeat (first|(with_reducible first|exact HB.out|apply below_alloc|apply pw_below_drewN|apply below_drew1)|exact HB.out))):w.heap.size≤gb209));have n3_:=n2_;clear HB;have HB:=n0_;have BK209:=n1_;have GW209:=n2_;have GE209:=n3_;clear n0_ n1_ n2_ n3_;clear hb hbox hg)
 go_loopg [7,8,15] k (fun kq v7 v8 v15 w'=>∃ (x7_1:Int) (x8_1:Int) (x15_1:Int),v7 = .int .i64 x7_1∧v8 = .int .i64 x8_1∧v15 = .int .i64 x15_1∧Aside0 (fleuronref17_Within.l0 kq a1 x7_1 x8_1 l0 (l0.length:Int) x15_1 a2_0 a2_1=some r)∧Aside0 (kq≤k)∧Aside0 (w'.heap[gb209]?=some (.cells #[.int .i64 a2_0,.int .i64 a2_1] 47 (0,0)))∧Aside0 (Below w.heap.size w w'))
 case atStart=>exact ⟨(0),(0),(0),(by first|rfl|(simp;done)|(simp [*];done)),(by first|rfl|(simp;done)|(simp [*];done)),(by first|rfl|(simp;done)|(simp [*];done)),H',⟨Nat.le_refl _⟩,⟨by (with_reducible repeat (first|refine blk_drewN ?_ _|refine blk_drew ?_|refine blk_alloc ?_ _));exact BK209.out⟩,⟨by repeat (first|(with_reducible first|exact HB.out|apply below_alloc|apply pw_below_drewN|apply below_drew1|refine below_set ?_ GE209.out)|exact HB.out)⟩⟩
 case round =>
  clear H'
  try clear p2
  try clear c3
  obtain ⟨x7_1,x8_1,x15_1,rfl,rfl,rfl,HA,HK1,BK209,HB⟩:=hrel
  cases gk with
  | zero=>exact absurd HA.out (by simp [fleuronref17_Within.l0])
  | succ k1 =>
   have H:=HA.out
   clear HA
   simp only [fleuronref17_Within.l0] at H
   by_cases c5:x15_1<(l0.length:Int)
   ·rw [if_pos c5] at H
    have c5b0:decide (x15_1<(l0.length:Int))=true:=decide_eq_true c5
    clear c5
    by_cases c6:0≤x15_1
    ·rw [if_pos c6] at H
     have c6b0:decide (0≤x15_1)=true:=decide_eq_true c6
     clear c6
     by_cases c7:x15_1<(l0.length:Int)
     ·rw [if_pos c7] at H
      have c7b0:decide (x15_1<(l0.length:Int))=true:=decide_eq_true c7
      clear c7
      replace H:=Option.bind_eq_some_iff.mp H
      obtain ⟨⟨t211,t212⟩,A80,H⟩:=H
      replace H:(fleuronref17_Within.l0 k1 a1 (wrap64 (x7_1+t211)) (wrap64 (x8_1+t212)) l0 (l0.length:Int) (wrap64 (x15_1+1)) a2_0 a2_1)=some r:=H
      have A8:=aK A80
      clear A80
      have H':=aK H
      clear H
      have p210:0≤(x15_1:Int):=of_decide_eq_true (by first|(with_reducible assumption)|assumption)
      have q210:x15_1<(l0.length:Int):=of_decide_eq_true (by first|(with_reducible assumption)|assumption)
      obtain ⟨ad210,A210_0,c210_0,e210,hx210_0,hl210_0,hi210_0⟩:=at_L2 HR0.out x15_1 p210 q210
      cases e210
      replace hx210_0:=(HB.out.cell (World.block_lt_of_cell? w _ hx210_0)).trans hx210_0
      have HR210_0:=aK hi210_0
      have HC210_0:=aK hl210_0
      clear hi210_0 hl210_0
      replace p210:=eq_true p210
      replace q210:=eq_true q210
      have hcz9_0:wr.cell? ⟨gb209,0,none⟩=some (.int .i64 a2_0):=(blk_cell BK209.out 0).trans rfl
      have hcz9_1:wr.cell? ⟨gb209,1,none⟩=some (.int .i64 a2_1):=(blk_cell BK209.out 1).trans rfl
      have hfz9_0:=blk_frozen BK209.out 0
      have hfz9_1:=blk_frozen BK209.out 1
      go_wp2_with ((with_reducible refine gate_callee (f:=75) rfl ?_);refine goesL_ (some 22) rfl rfl Tryz.func75 (by kernel_rfl) rfl #[.slice A210_0 (rd_L2 l0 x15_1).length c210_0,.agg #[.int .i64 a2_0,.int .i64 a2_1]] rfl (by (try simp only [List.map_toArray,List.map_cons,List.map_nil]);first|done|rfl|(simp only [List.length_drop,List.length_take];rfl)) ?_;(with_reducible refine (fleuronref17_Wind.calls k1 _ _ (rd_L2 l0 x15_1) a2_0 a2_1 t211 t212 _ ?side1 ?side2 A8.out).mono ?_);(case side1=>repeat (first|exact (Kd.C_below HR210_0.out HB.out)|(with_reducible refine Kd.C_alloc ?_ _)|(with_reducible refine Kd.C_drewN ?_ _)|(with_reducible refine Kd.C_drew ?_)));(case side2=>exact HC210_0.out);rintro e w10 ⟨rfl,hb⟩;refine ⟨_,rfl,?_⟩;have n0_:=aK (blk_below (g:=gb209) (o:=.cells #[.int .i64 a2_0,.int .i64 a2_1] 47 (0,0)) (by (with_reducible repeat (first|refine blk_drewN ?_ _|refine blk_drew ?_|refine blk_alloc ?_ _));exact BK209.out) hb);have n1_:=aK (below_step (by repeat (first|(with_reducible first|exact HB.out|apply below_alloc|apply pw_below_drewN|apply below_drew1|refine below_set ?_ GE209.out)|exact HB.out)) hb);clear BK209;clear HB;have BK209:=n0_;have HB:=n1_;clear n0_ n1_;(try clear hb);(try clear hb2);(try clear hk);(try clear hi))
      go_roundg k1
      case measure=>have:=HK1.out;omega
      case rel=>exact ⟨(wrap64 (x7_1+t211)),(wrap64 (x8_1+t212)),(wrap64 (x15_1+1)),(by first|rfl|(simp;done)|(simp [*];done)),(by first|rfl|(simp;done)|(simp [*];done)),(by first|rfl|(simp;done)|(simp [*];done)),H',⟨by have:=HK1.out;omega⟩,⟨by (with_reducible repeat (first|refine blk_drewN ?_ _|refine blk_drew ?_|refine blk_alloc ?_ _));exact BK209.out⟩,⟨by repeat (first|(with_reducible first|exact HB.out|apply below_alloc|apply pw_below_drewN|apply below_drew1|refine below_set ?_ GE209.out)|exact HB.out)⟩⟩
     ·rw [if_neg c7] at H
      exact absurd H (by simp)
    ·rw [if_neg c6] at H
     exact absurd H (by simp)
   ·rw [if_neg c5] at H
    have c5b0:decide (x15_1<(l0.length:Int))=false:=decide_eq_false c5
    clear c5
    by_cases c11:a1=true
    ·subst c11
     have H1:(some ((Int.tmod x8_1 2) == 1))=some r:=by rw [if_pos rfl] at H;exact H
     clear H
     have H:=H1
     clear H1
     obtain rfl:=Option.some.inj H
     go_wp2
     go_ret
     exact ⟨by first|rfl|(simp [errW_none,errW_some] <;> rfl)|(simp [*,errW_none,errW_some] <;> rfl),by repeat (first|(with_reducible first|exact HB.out|apply below_alloc|apply pw_below_drewN|apply below_drew1|refine below_set ?_ GE209.out)|exact HB.out)⟩
    ·replace c11:=Bool.eq_false_iff.mpr c11
     subst c11
     have H1:(if x7_1=0 then (some false) else (some true))=some r:=by rw [if_neg (show ¬ (false=true) by decide)] at H;exact H
     clear H
     have H:=H1
     clear H1
     by_cases c12:x7_1=0
     ·rw [if_pos c12] at H
      have c12b0:(x7_1 == 0)=true:=beq_iff_eq.mpr c12
      have c12b1:(x7_1 != 0)=false:=bne_eq_false_iff_eq.mpr c12
      clear c12
      obtain rfl:=Option.some.inj H
      go_wp2
      go_ret
      exact ⟨by first|rfl|(simp [errW_none,errW_some] <;> rfl)|(simp [*,errW_none,errW_some] <;> rfl),by repeat (first|(with_reducible first|exact HB.out|apply below_alloc|apply pw_below_drewN|apply below_drew1|refine below_set ?_ GE209.out)|exact HB.out)⟩
     ·rw [if_neg c12] at H
      have c12b0:(x7_1 == 0)=false:=beq_eq_false_iff_ne.mpr c12
      have c12b1:(x7_1 != 0)=true:=bne_iff_ne.mpr c12
      obtain rfl:=Option.some.inj H
      go_wp2
      go_ret
      exact ⟨by first|rfl|(simp [errW_none,errW_some] <;> rfl)|(simp [*,errW_none,errW_some] <;> rfl),by repeat (first|(with_reducible first|exact HB.out|apply below_alloc|apply pw_below_drewN|apply below_drew1|refine below_set ?_ GE209.out)|exact HB.out)⟩
end Go.Proofs.YtckjlckhjcbddaaGreat.PG3
